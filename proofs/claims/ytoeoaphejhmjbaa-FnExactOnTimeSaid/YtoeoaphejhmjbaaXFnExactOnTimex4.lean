-- Written by a program of this session (the kit's print, widened). Proved here: what each function answers, for the arguments that its contract names.
import Derived.Test.YtoeoaphejhmjbaaXFnExactOnTimex0
namespace Go.Proofs.Ytoeoaphejhmjbaa.XFnExactOnTime
open Go.RowKit Go.Proofs.YtoeoaphejhmjbaaW.PrintWords Go.Proofs.YtoeoaphejhmjbaaW.PrintLast Go.Proofs.YtoeoaphejhmjbaaW.PrintMore
attribute [local go_sem] max2_int min2_int max_two min_two max_three min_three max_four min_four   -- for this text's walks alone
set_option linter.unusedVariables false
set_option linter.unusedSimpArgs false

/-! ### spec_l3Gap: function 104 -/
def spec_l3Gap.f (l0 : List (S64)) (a1 : Int) (a2 : Int) (a3 : Int) : Option (Int) := if 0 ≤ a2 then (if a2 < (l0.length : Int) then (if 0 ≤ a3 then (if a3 < (l0.length : Int) then (if a1 = 1 then (some (wrap64 (((rd_T64 l0 a2).f2) - ((rd_T64 l0 a3).f2)))) else (if a1 = 2 then (some (wrap64 (((rd_T64 l0 a2).f0) - ((rd_T64 l0 a3).f0)))) else (if a1 = 3 then (some (wrap64 ((wrap64 (((rd_T64 l0 a2).f0) * ((rd_T64 l0 a3).f1))) - (wrap64 (((rd_T64 l0 a3).f0) * ((rd_T64 l0 a2).f1)))))) else (some (wrap64 (((rd_T64 l0 a2).f3) - ((rd_T64 l0 a3).f3))))))) else (none)) else (none)) else (none)) else (none)
def spec_l3Gap.T1 : Bool × List (List Nat × List Nat) := (true, [([], []), ([], []), ([0, 1], [0, 1]), ([2], [2]), ([], []), ([], []), ([4, 5], [4, 5]), ([6], [6]), ([], []), ([], []), ([8, 3, 0, 1, 2, 3, 8, 9], [3, 8]), ([9, 7, 10, 0, 1, 2, 3, 4, 5, 6, 7, 8, 9, 10], [7, 9])])
def spec_l3Gap.B1 : List Nat := [0, 0, 3, 7, 0, 0, 48, 112, 0, 0, 783, 2047]
theorem spec_l3Gap.tab1 : rtab .any (opsOf Try.f104 1) = spec_l3Gap.T1 := by kernel_rfl
theorem spec_l3Gap.bits1 : waitsOk spec_l3Gap.T1.2 spec_l3Gap.B1 = true := by kernel_rfl
set_option maxHeartbeats 8000000 in
set_option maxRecDepth 100000 in
theorem spec_l3Gap.calls (A0 : Option Addr) (c0 : Nat) (l0 : List (S64)) (a1 : Int) (a2 : Int) (a3 : Int) (r : Int) (w : World) (hr0 : Kd.C k64 w A0 l0.length l0) (hc0 : l0.length ≤ c0) (h : spec_l3Gap.f l0 a1 a2 a3 = some r) :
    Calls Try.prog 104 #[.slice A0 l0.length c0, .int .i64 a1, .int .i64 a2, .int .i64 a3] w fun e w' => e = .returned (.int .i64 r) ∧ Below w.heap.size w w' := by
  have hu64 := Try.underlying64
  have HR0 := Aside0.mk hr0
  have HC0 := Aside0.mk hc0
  clear hr0 hc0
  have HB := Aside0.mk (Below.refl w.heap.size w)
  have H : (if 0 ≤ a2 then (if a2 < (l0.length : Int) then (if 0 ≤ a3 then (if a3 < (l0.length : Int) then (if a1 = 1 then (some (wrap64 (((rd_T64 l0 a2).f2) - ((rd_T64 l0 a3).f2)))) else (if a1 = 2 then (some (wrap64 (((rd_T64 l0 a2).f0) - ((rd_T64 l0 a3).f0)))) else (if a1 = 3 then (some (wrap64 ((wrap64 (((rd_T64 l0 a2).f0) * ((rd_T64 l0 a3).f1))) - (wrap64 (((rd_T64 l0 a3).f0) * ((rd_T64 l0 a2).f1)))))) else (some (wrap64 (((rd_T64 l0 a2).f3) - ((rd_T64 l0 a3).f3))))))) else (none)) else (none)) else (none)) else (none)) = some r := h
  clear h
  by_cases c5 : 0 ≤ a2
  · rw [if_pos c5] at H
    have c5b0 : decide (0 ≤ a2) = true := decide_eq_true c5
    clear c5
    by_cases c6 : a2 < (l0.length : Int)
    · rw [if_pos c6] at H
      have c6b0 : decide (a2 < (l0.length : Int)) = true := decide_eq_true c6
      clear c6
      by_cases c7 : 0 ≤ a3
      · rw [if_pos c7] at H
        have c7b0 : decide (0 ≤ a3) = true := decide_eq_true c7
        clear c7
        by_cases c8 : a3 < (l0.length : Int)
        · rw [if_pos c8] at H
          have c8b0 : decide (a3 < (l0.length : Int)) = true := decide_eq_true c8
          clear c8
          by_cases c9 : a1 = 1
          · rw [if_pos c9] at H
            have c9b0 : (a1 == 1) = true := beq_iff_eq.mpr c9
            have c9b1 : (a1 != 1) = false := bne_eq_false_iff_eq.mpr c9
            clear c9
            obtain rfl := Option.some.inj H
            go_enter Try.func104, Try.ntmps104
            try go_wp2
            have n0_ := Aside0.mk (below_drew1 HB.out)
            clear HB
            have HB := n0_
            clear n0_
            have p140 : 0 ≤ (a2 : Int) := of_decide_eq_true (by first | (with_reducible assumption) | assumption)
            have q140 : a2 < (l0.length : Int) := of_decide_eq_true (by first | (with_reducible assumption) | assumption)
            obtain ⟨ad140, e140, hx140_0, hx140_1, hx140_2, hx140_3⟩ := at_T64 HR0.out a2 p140 q140
            have hw140_3 := hx140_3
            have hw140_2 := hx140_2
            have hw140_1 := hx140_1
            have hw140_0 := hx140_0
            cases e140
            replace hx140_0 := (HB.out.cell (World.block_lt_of_cell? w _ hx140_0)).trans hx140_0
            replace hx140_1 := (HB.out.cell (World.block_lt_of_cell? w _ hx140_1)).trans hx140_1
            replace hx140_2 := (HB.out.cell (World.block_lt_of_cell? w _ hx140_2)).trans hx140_2
            replace hx140_3 := (HB.out.cell (World.block_lt_of_cell? w _ hx140_3)).trans hx140_3
            replace p140 := eq_true p140
            replace q140 := eq_true q140
            have p141 : 0 ≤ (a3 : Int) := of_decide_eq_true (by first | (with_reducible assumption) | assumption)
            have q141 : a3 < (l0.length : Int) := of_decide_eq_true (by first | (with_reducible assumption) | assumption)
            obtain ⟨ad141, e141, hx141_0, hx141_1, hx141_2, hx141_3⟩ := at_T64 HR0.out a3 p141 q141
            have hw141_3 := hx141_3
            have hw141_2 := hx141_2
            have hw141_1 := hx141_1
            have hw141_0 := hx141_0
            obtain rfl : ad140 = ad141 := (by injection e141)
            replace hx141_0 := (HB.out.cell (World.block_lt_of_cell? w _ hx141_0)).trans hx141_0
            replace hx141_1 := (HB.out.cell (World.block_lt_of_cell? w _ hx141_1)).trans hx141_1
            replace hx141_2 := (HB.out.cell (World.block_lt_of_cell? w _ hx141_2)).trans hx141_2
            replace hx141_3 := (HB.out.cell (World.block_lt_of_cell? w _ hx141_3)).trans hx141_3
            replace p141 := eq_true p141
            replace q141 := eq_true q141
            refine start_ (n := 12) (S := fun w' => w'.cell? (ad140.add ((a2).toNat * 4)) = some (.int .i64 ((rd_T64 l0 a2).f0)) ∧ w'.cell? ⟨(ad140.add ((a2).toNat * 4)).block, (ad140.add ((a2).toNat * 4)).off + 1, none⟩ = some (.int .i64 ((rd_T64 l0 a2).f1)) ∧ w'.cell? ⟨(ad140.add ((a2).toNat * 4)).block, (ad140.add ((a2).toNat * 4)).off + 2, none⟩ = some (.int .i64 ((rd_T64 l0 a2).f2)) ∧ w'.cell? ⟨(ad140.add ((a2).toNat * 4)).block, (ad140.add ((a2).toNat * 4)).off + 3, none⟩ = some (.int .i64 ((rd_T64 l0 a2).f3)) ∧ w'.cell? (ad140.add ((a3).toNat * 4)) = some (.int .i64 ((rd_T64 l0 a3).f0)) ∧ w'.cell? ⟨(ad140.add ((a3).toNat * 4)).block, (ad140.add ((a3).toNat * 4)).off + 1, none⟩ = some (.int .i64 ((rd_T64 l0 a3).f1)) ∧ w'.cell? ⟨(ad140.add ((a3).toNat * 4)).block, (ad140.add ((a3).toNat * 4)).off + 2, none⟩ = some (.int .i64 ((rd_T64 l0 a3).f2)) ∧ w'.cell? ⟨(ad140.add ((a3).toNat * 4)).block, (ad140.add ((a3).toNat * 4)).off + 3, none⟩ = some (.int .i64 ((rd_T64 l0 a3).f3))) (ds := []) #[false, false, false, false, false, false, false, false, false, false, false, false] (by kernel_rfl) rfl rfl ⟨((HB.out.cell (World.block_lt_of_cell? w _ hw140_0)).trans hw140_0), ((HB.out.cell (World.block_lt_of_cell? w _ hw140_1)).trans hw140_1), ((HB.out.cell (World.block_lt_of_cell? w _ hw140_2)).trans hw140_2), ((HB.out.cell (World.block_lt_of_cell? w _ hw140_3)).trans hw140_3), ((HB.out.cell (World.block_lt_of_cell? w _ hw141_0)).trans hw141_0), ((HB.out.cell (World.block_lt_of_cell? w _ hw141_1)).trans hw141_1), ((HB.out.cell (World.block_lt_of_cell? w _ hw141_2)).trans hw141_2), ((HB.out.cell (World.block_lt_of_cell? w _ hw141_3)).trans hw141_3)⟩ (fun hHeld => ?_); refine with_tabW spec_l3Gap.tab1 spec_l3Gap.bits1 (fun HT_ HW_ => ?_)
            generalize w.drew = w10 at HB hx140_0 hx140_1 hx140_2 hx140_3 hx141_0 hx141_1 hx141_2 hx141_3 hHeld ⊢
            refine pure_ (i := 0) (N := some 11) (v := ?_) (a' := ?_) #[true, false, false, false, false, false, false, false, false, false, false, false] rfl rfl (any_of HT_.out (by kernel_rfl)) (fun _ _ _ h => h) (Or.inl ⟨by rfl, ?_⟩) ?_ ?_
            rotate_left
            · intro w'
              go_simp
              with_reducible rfl
            rotate_left
            · simp only [Act.put, List.setIfInBounds_toArray, List.set_cons_zero, List.set_cons_succ, i64_w, i32_w]
              rfl
            refine pure_ (i := 1) (N := some 12) (v := ?_) (a' := ?_) #[true, true, false, false, false, false, false, false, false, false, false, false] rfl rfl (any_of HT_.out (by kernel_rfl)) (fun _ _ _ h => h) (Or.inl ⟨by rfl, ?_⟩) ?_ ?_
            rotate_left
            · intro w'
              go_simp
              with_reducible rfl
            rotate_left
            · simp only [Act.put, List.setIfInBounds_toArray, List.set_cons_zero, List.set_cons_succ, i64_w, i32_w]
              rfl
            refine pure_ (i := 2) (N := some 13) (v := ?_) (a' := ?_) #[true, true, true, false, false, false, false, false, false, false, false, false] rfl rfl (any_of HT_.out (by kernel_rfl)) (fun _ _ _ h => h) (Or.inl ⟨by rfl, ?_⟩) ?_ ?_
            rotate_left
            · intro w'
              go_simp
              with_reducible rfl
            rotate_left
            · simp only [Act.put, List.setIfInBounds_toArray, List.set_cons_zero, List.set_cons_succ, i64_w, i32_w]
              rfl
            refine pure_ (i := 4) (N := some 15) (v := ?_) (a' := ?_) #[true, true, true, false, true, false, false, false, false, false, false, false] rfl rfl (any_of HT_.out (by kernel_rfl)) (fun _ _ _ h => h) (Or.inl ⟨by rfl, ?_⟩) ?_ ?_
            rotate_left
            · intro w'
              go_simp
              with_reducible rfl
            rotate_left
            · simp only [Act.put, List.setIfInBounds_toArray, List.set_cons_zero, List.set_cons_succ, i64_w, i32_w]
              rfl
            refine pure_ (i := 5) (N := some 16) (v := ?_) (a' := ?_) #[true, true, true, false, true, true, false, false, false, false, false, false] rfl rfl (any_of HT_.out (by kernel_rfl)) (fun _ _ _ h => h) (Or.inl ⟨by rfl, ?_⟩) ?_ ?_
            rotate_left
            · intro w'
              go_simp
              with_reducible rfl
            rotate_left
            · simp only [Act.put, List.setIfInBounds_toArray, List.set_cons_zero, List.set_cons_succ, i64_w, i32_w]
              rfl
            refine pure_ (i := 6) (N := some 17) (v := ?_) (a' := ?_) #[true, true, true, false, true, true, true, false, false, false, false, false] rfl rfl (any_of HT_.out (by kernel_rfl)) (fun _ _ _ h => h) (Or.inl ⟨by rfl, ?_⟩) ?_ ?_
            rotate_left
            · intro w'
              go_simp
              with_reducible rfl
            rotate_left
            · simp only [Act.put, List.setIfInBounds_toArray, List.set_cons_zero, List.set_cons_succ, i64_w, i32_w]
              rfl
            refine take_ (i := 3) (N := some 14) (v := ?_) (a' := ?_) #[true, true, true, true, true, true, true, false, false, false, false, false] rfl rfl (take_ofW HT_.out HW_.out (by kernel_rfl)) (fun _ _ _ h => h) (Or.inl ⟨by rfl, ?_⟩) hHeld ?_ ?_
            rotate_left
            · rintro w' ⟨s0, s1, s2, s3, s4, s5, s6, s7⟩
              go_simp
              with_reducible rfl
            rotate_left
            · simp only [Act.put, List.setIfInBounds_toArray, List.set_cons_zero, List.set_cons_succ, i64_w, i32_w]
              rfl
            refine take_ (i := 7) (N := some 18) (v := ?_) (a' := ?_) #[true, true, true, true, true, true, true, true, false, false, false, false] rfl rfl (take_ofW HT_.out HW_.out (by kernel_rfl)) (fun _ _ _ h => h) (Or.inl ⟨by rfl, ?_⟩) hHeld ?_ ?_
            rotate_left
            · rintro w' ⟨s0, s1, s2, s3, s4, s5, s6, s7⟩
              go_simp
              with_reducible rfl
            rotate_left
            · simp only [Act.put, List.setIfInBounds_toArray, List.set_cons_zero, List.set_cons_succ, i64_w, i32_w]
              rfl
            refine join_ (σ := Nat × Nat) 2 #[true, true, true, true, true, true, true, true, true, true, false, false] (fun s_ => [(9, .pointer (some ⟨s_.1, 0, none⟩)), (10, .pointer (some ⟨s_.2, 0, none⟩))]) (fun s_ w' => (w'.cell? (ad140.add ((a2).toNat * 4)) = some (.int .i64 ((rd_T64 l0 a2).f0)) ∧ w'.cell? ⟨(ad140.add ((a2).toNat * 4)).block, (ad140.add ((a2).toNat * 4)).off + 1, none⟩ = some (.int .i64 ((rd_T64 l0 a2).f1)) ∧ w'.cell? ⟨(ad140.add ((a2).toNat * 4)).block, (ad140.add ((a2).toNat * 4)).off + 2, none⟩ = some (.int .i64 ((rd_T64 l0 a2).f2)) ∧ w'.cell? ⟨(ad140.add ((a2).toNat * 4)).block, (ad140.add ((a2).toNat * 4)).off + 3, none⟩ = some (.int .i64 ((rd_T64 l0 a2).f3)) ∧ w'.cell? (ad140.add ((a3).toNat * 4)) = some (.int .i64 ((rd_T64 l0 a3).f0)) ∧ w'.cell? ⟨(ad140.add ((a3).toNat * 4)).block, (ad140.add ((a3).toNat * 4)).off + 1, none⟩ = some (.int .i64 ((rd_T64 l0 a3).f1)) ∧ w'.cell? ⟨(ad140.add ((a3).toNat * 4)).block, (ad140.add ((a3).toNat * 4)).off + 2, none⟩ = some (.int .i64 ((rd_T64 l0 a3).f2)) ∧ w'.cell? ⟨(ad140.add ((a3).toNat * 4)).block, (ad140.add ((a3).toNat * 4)).off + 3, none⟩ = some (.int .i64 ((rd_T64 l0 a3).f3))) ∧ (w'.heap[s_.1]? = some (.cells #[.int .i64 0, .int .i64 0, .int .i64 0, .int .i64 0] 64 (0, 0))) ∧ (w'.heap[s_.2]? = some (.cells #[.int .i64 0, .int .i64 0, .int .i64 0, .int .i64 0] 64 (0, 0))) ∧ (w.heap.size ≤ s_.1) ∧ (w.heap.size ≤ s_.1) ∧ (s_.2 ≠ s_.1) ∧ (s_.1 ≠ s_.2) ∧ (w.heap.size ≤ s_.2) ∧ (w.heap.size ≤ s_.2) ∧ (Below w.heap.size w w')) ?_ ?_
            rotate_left
            · intro hCont
              refine two_ (i := 8) (j := 9) (Ni := some 9) (Nj := some 10) #[true, true, true, true, true, true, true, true, true, false, false, false] #[true, true, true, true, true, true, true, true, false, true, false, false] rfl rfl rfl rfl (two_of HT_.out (by kernel_rfl)) (by decide) (by decide) (fun K hK => ?_) (fun K hK => ?_)
              · skip
                refine box_step ?hg (N := 9) ?hd (cs := #[.int .i64 0, .int .i64 0, .int .i64 0, .int .i64 0]) (t := 64) ?hr ?_; (case hd => rfl); (case hg => rfl); (case hr => first | (go_simp; done) | (go_simp; rfl))
                intro gb142 hg w11 hbox hb
                have n0_ := Aside0.mk (below_step (by repeat (first | (with_reducible first | exact HB.out | apply below_alloc | apply pw_below_drewN | apply below_drew1) | exact HB.out)) hb)
                have n1_ := Aside0.mk (hbox)
                have n2_ := Aside0.mk ((by rw [hg]; exact (below_size (by repeat (first | (with_reducible first | exact HB.out | apply below_alloc | apply pw_below_drewN | apply below_drew1) | exact HB.out))) : w.heap.size ≤ gb142))
                have n3_ := Aside0.mk ((by rw [hg]; exact (below_size (by repeat (first | (with_reducible first | exact HB.out | apply below_alloc | apply pw_below_drewN | apply below_drew1) | exact HB.out))) : w.heap.size ≤ gb142))
                clear HB
                have HB := n0_
                have BK142 := n1_
                have GW142 := n2_
                have GE142 := n3_
                clear n0_ n1_ n2_ n3_
                clear hb hbox hg
                refine hK.out _ _ ⟨((HB.out.cell (World.block_lt_of_cell? w _ hw140_0)).trans hw140_0), ((HB.out.cell (World.block_lt_of_cell? w _ hw140_1)).trans hw140_1), ((HB.out.cell (World.block_lt_of_cell? w _ hw140_2)).trans hw140_2), ((HB.out.cell (World.block_lt_of_cell? w _ hw140_3)).trans hw140_3), ((HB.out.cell (World.block_lt_of_cell? w _ hw141_0)).trans hw141_0), ((HB.out.cell (World.block_lt_of_cell? w _ hw141_1)).trans hw141_1), ((HB.out.cell (World.block_lt_of_cell? w _ hw141_2)).trans hw141_2), ((HB.out.cell (World.block_lt_of_cell? w _ hw141_3)).trans hw141_3)⟩ (fun hHeld => ?_)
                clear hK K
                refine norm_ (a' := ?_) ?_ ?_
                rotate_left
                · show Act.put _ (some 9) _ = _
                  simp only [Act.put, List.setIfInBounds_toArray, List.set_cons_zero, List.set_cons_succ, i64_w, i32_w]
                  rfl
                refine one_ (i := 9) (N := some 10) #[true, true, true, true, true, true, true, true, true, true, false, false] rfl rfl (one_of HT_.out (by kernel_rfl)) (by decide) (fun K hK => ?_)
                refine box_step ?hg (N := 10) ?hd (cs := #[.int .i64 0, .int .i64 0, .int .i64 0, .int .i64 0]) (t := 64) ?hr ?_; (case hd => rfl); (case hg => rfl); (case hr => first | (go_simp; done) | (go_simp; rfl))
                intro gb143 hg w12 hbox hb
                have n0_ := Aside0.mk (blk_below (g := gb142) (o := .cells #[.int .i64 0, .int .i64 0, .int .i64 0, .int .i64 0] 64 (0, 0)) (by (with_reducible repeat (first | refine blk_drewN ?_ _ | refine blk_drew ?_ | refine blk_alloc ?_ _)); exact BK142.out) hb)
                have n1_ := Aside0.mk (below_step (by repeat (first | (with_reducible first | exact HB.out | apply below_alloc | apply pw_below_drewN | apply below_drew1 | refine below_set ?_ GE142.out) | exact HB.out)) hb)
                have n2_ := Aside0.mk (hbox)
                have n3_ := Aside0.mk ((by rw [hg]; exact (below_size (by repeat (first | (with_reducible first | exact HB.out | apply below_alloc | apply pw_below_drewN | apply below_drew1 | refine below_set ?_ GE142.out) | exact HB.out))) : w.heap.size ≤ gb143))
                have n4_ := Aside0.mk ((by rw [hg]; exact (below_size (by repeat (first | (with_reducible first | exact HB.out | apply below_alloc | apply pw_below_drewN | apply below_drew1 | refine below_set ?_ GE142.out) | exact HB.out))) : w.heap.size ≤ gb143))
                have n5_ := Aside0.mk ((by rw [hg]; exact Nat.ne_of_lt (blk_lt (g := gb142) (o := .cells #[.int .i64 0, .int .i64 0, .int .i64 0, .int .i64 0] 64 (0, 0)) (by (with_reducible repeat (first | refine blk_drewN ?_ _ | refine blk_drew ?_ | refine blk_alloc ?_ _)); exact BK142.out)) : gb142 ≠ gb143))
                have n6_ := Aside0.mk ((by rw [hg]; exact Nat.ne_of_gt (blk_lt (g := gb142) (o := .cells #[.int .i64 0, .int .i64 0, .int .i64 0, .int .i64 0] 64 (0, 0)) (by (with_reducible repeat (first | refine blk_drewN ?_ _ | refine blk_drew ?_ | refine blk_alloc ?_ _)); exact BK142.out)) : gb143 ≠ gb142))
                clear BK142
                clear HB
                have BK142 := n0_
                have HB := n1_
                have BK143 := n2_
                have GW143 := n3_
                have GE143 := n4_
                have NB142_143 := n5_
                have NB143_142 := n6_
                clear n0_ n1_ n2_ n3_ n4_ n5_ n6_
                clear hb hbox hg
                refine hK.out _ _ ⟨((HB.out.cell (World.block_lt_of_cell? w _ hw140_0)).trans hw140_0), ((HB.out.cell (World.block_lt_of_cell? w _ hw140_1)).trans hw140_1), ((HB.out.cell (World.block_lt_of_cell? w _ hw140_2)).trans hw140_2), ((HB.out.cell (World.block_lt_of_cell? w _ hw140_3)).trans hw140_3), ((HB.out.cell (World.block_lt_of_cell? w _ hw141_0)).trans hw141_0), ((HB.out.cell (World.block_lt_of_cell? w _ hw141_1)).trans hw141_1), ((HB.out.cell (World.block_lt_of_cell? w _ hw141_2)).trans hw141_2), ((HB.out.cell (World.block_lt_of_cell? w _ hw141_3)).trans hw141_3)⟩ (fun hHeld => ?_)
                clear hK K
                refine norm_ (a' := ?_) ?_ ?_
                rotate_left
                · show Act.put _ (some 10) _ = _
                  simp only [Act.put, List.setIfInBounds_toArray, List.set_cons_zero, List.set_cons_succ, i64_w, i32_w]
                  rfl
                exact norm_ (by simp only [putAll, Act.put, List.setIfInBounds_toArray, List.set_cons_zero, List.set_cons_succ]) (hCont (gb142, gb143) _ ⟨hHeld, (by (with_reducible repeat (first | refine blk_drewN ?_ _ | refine blk_drew ?_ | refine blk_alloc ?_ _)); exact BK142.out), (by (with_reducible repeat (first | refine blk_drewN ?_ _ | refine blk_drew ?_ | refine blk_alloc ?_ _)); exact BK143.out), GW142.out, GE142.out, NB143_142.out, NB142_143.out, GW143.out, GE143.out, (by repeat (first | (with_reducible first | exact HB.out | apply below_alloc | apply pw_below_drewN | apply below_drew1 | refine below_set ?_ GE142.out | refine below_set ?_ GE143.out) | exact HB.out))⟩)
              · skip
                refine box_step ?hg (N := 10) ?hd (cs := #[.int .i64 0, .int .i64 0, .int .i64 0, .int .i64 0]) (t := 64) ?hr ?_; (case hd => rfl); (case hg => rfl); (case hr => first | (go_simp; done) | (go_simp; rfl))
                intro gb143 hg w11 hbox hb
                have n0_ := Aside0.mk (below_step (by repeat (first | (with_reducible first | exact HB.out | apply below_alloc | apply pw_below_drewN | apply below_drew1) | exact HB.out)) hb)
                have n1_ := Aside0.mk (hbox)
                have n2_ := Aside0.mk ((by rw [hg]; exact (below_size (by repeat (first | (with_reducible first | exact HB.out | apply below_alloc | apply pw_below_drewN | apply below_drew1) | exact HB.out))) : w.heap.size ≤ gb143))
                have n3_ := Aside0.mk ((by rw [hg]; exact (below_size (by repeat (first | (with_reducible first | exact HB.out | apply below_alloc | apply pw_below_drewN | apply below_drew1) | exact HB.out))) : w.heap.size ≤ gb143))
                clear HB
                have HB := n0_
                have BK143 := n1_
                have GW143 := n2_
                have GE143 := n3_
                clear n0_ n1_ n2_ n3_
                clear hb hbox hg
                refine hK.out _ _ ⟨((HB.out.cell (World.block_lt_of_cell? w _ hw140_0)).trans hw140_0), ((HB.out.cell (World.block_lt_of_cell? w _ hw140_1)).trans hw140_1), ((HB.out.cell (World.block_lt_of_cell? w _ hw140_2)).trans hw140_2), ((HB.out.cell (World.block_lt_of_cell? w _ hw140_3)).trans hw140_3), ((HB.out.cell (World.block_lt_of_cell? w _ hw141_0)).trans hw141_0), ((HB.out.cell (World.block_lt_of_cell? w _ hw141_1)).trans hw141_1), ((HB.out.cell (World.block_lt_of_cell? w _ hw141_2)).trans hw141_2), ((HB.out.cell (World.block_lt_of_cell? w _ hw141_3)).trans hw141_3)⟩ (fun hHeld => ?_)
                clear hK K
                refine norm_ (a' := ?_) ?_ ?_
                rotate_left
                · show Act.put _ (some 10) _ = _
                  simp only [Act.put, List.setIfInBounds_toArray, List.set_cons_zero, List.set_cons_succ, i64_w, i32_w]
                  rfl
                refine one_ (i := 8) (N := some 9) #[true, true, true, true, true, true, true, true, true, true, false, false] rfl rfl (one_of HT_.out (by kernel_rfl)) (by decide) (fun K hK => ?_)
                refine box_step ?hg (N := 9) ?hd (cs := #[.int .i64 0, .int .i64 0, .int .i64 0, .int .i64 0]) (t := 64) ?hr ?_; (case hd => rfl); (case hg => rfl); (case hr => first | (go_simp; done) | (go_simp; rfl))
                intro gb142 hg w12 hbox hb
                have n0_ := Aside0.mk (blk_below (g := gb143) (o := .cells #[.int .i64 0, .int .i64 0, .int .i64 0, .int .i64 0] 64 (0, 0)) (by (with_reducible repeat (first | refine blk_drewN ?_ _ | refine blk_drew ?_ | refine blk_alloc ?_ _)); exact BK143.out) hb)
                have n1_ := Aside0.mk (below_step (by repeat (first | (with_reducible first | exact HB.out | apply below_alloc | apply pw_below_drewN | apply below_drew1 | refine below_set ?_ GE143.out) | exact HB.out)) hb)
                have n2_ := Aside0.mk (hbox)
                have n3_ := Aside0.mk ((by rw [hg]; exact (below_size (by repeat (first | (with_reducible first | exact HB.out | apply below_alloc | apply pw_below_drewN | apply below_drew1 | refine below_set ?_ GE143.out) | exact HB.out))) : w.heap.size ≤ gb142))
                have n4_ := Aside0.mk ((by rw [hg]; exact (below_size (by repeat (first | (with_reducible first | exact HB.out | apply below_alloc | apply pw_below_drewN | apply below_drew1 | refine below_set ?_ GE143.out) | exact HB.out))) : w.heap.size ≤ gb142))
                have n5_ := Aside0.mk ((by rw [hg]; exact Nat.ne_of_lt (blk_lt (g := gb143) (o := .cells #[.int .i64 0, .int .i64 0, .int .i64 0, .int .i64 0] 64 (0, 0)) (by (with_reducible repeat (first | refine blk_drewN ?_ _ | refine blk_drew ?_ | refine blk_alloc ?_ _)); exact BK143.out)) : gb143 ≠ gb142))
                have n6_ := Aside0.mk ((by rw [hg]; exact Nat.ne_of_gt (blk_lt (g := gb143) (o := .cells #[.int .i64 0, .int .i64 0, .int .i64 0, .int .i64 0] 64 (0, 0)) (by (with_reducible repeat (first | refine blk_drewN ?_ _ | refine blk_drew ?_ | refine blk_alloc ?_ _)); exact BK143.out)) : gb142 ≠ gb143))
                clear BK143
                clear HB
                have BK143 := n0_
                have HB := n1_
                have BK142 := n2_
                have GW142 := n3_
                have GE142 := n4_
                have NB143_142 := n5_
                have NB142_143 := n6_
                clear n0_ n1_ n2_ n3_ n4_ n5_ n6_
                clear hb hbox hg
                refine hK.out _ _ ⟨((HB.out.cell (World.block_lt_of_cell? w _ hw140_0)).trans hw140_0), ((HB.out.cell (World.block_lt_of_cell? w _ hw140_1)).trans hw140_1), ((HB.out.cell (World.block_lt_of_cell? w _ hw140_2)).trans hw140_2), ((HB.out.cell (World.block_lt_of_cell? w _ hw140_3)).trans hw140_3), ((HB.out.cell (World.block_lt_of_cell? w _ hw141_0)).trans hw141_0), ((HB.out.cell (World.block_lt_of_cell? w _ hw141_1)).trans hw141_1), ((HB.out.cell (World.block_lt_of_cell? w _ hw141_2)).trans hw141_2), ((HB.out.cell (World.block_lt_of_cell? w _ hw141_3)).trans hw141_3)⟩ (fun hHeld => ?_)
                clear hK K
                refine norm_ (a' := ?_) ?_ ?_
                rotate_left
                · show Act.put _ (some 9) _ = _
                  simp only [Act.put, List.setIfInBounds_toArray, List.set_cons_zero, List.set_cons_succ, i64_w, i32_w]
                  rfl
                exact norm_ (by simp only [putAll, Act.put, List.setIfInBounds_toArray, List.set_cons_zero, List.set_cons_succ]) (hCont (gb142, gb143) _ ⟨hHeld, (by (with_reducible repeat (first | refine blk_drewN ?_ _ | refine blk_drew ?_ | refine blk_alloc ?_ _)); exact BK142.out), (by (with_reducible repeat (first | refine blk_drewN ?_ _ | refine blk_drew ?_ | refine blk_alloc ?_ _)); exact BK143.out), GW142.out, GE142.out, NB143_142.out, NB142_143.out, GW143.out, GE143.out, (by repeat (first | (with_reducible first | exact HB.out | apply below_alloc | apply pw_below_drewN | apply below_drew1 | refine below_set ?_ GE143.out | refine below_set ?_ GE142.out) | exact HB.out))⟩)
            rintro ⟨gb142, gb143⟩ w13 ⟨hS_, h0_, h1_, h2_, h3_, h4_, h5_, h6_, h7_, h8_⟩
            have n0_ : Aside0 (w13.heap[gb142]? = some (.cells #[.int .i64 0, .int .i64 0, .int .i64 0, .int .i64 0] 64 (0, 0))) := ⟨h0_⟩
            have n1_ : Aside0 (w13.heap[gb143]? = some (.cells #[.int .i64 0, .int .i64 0, .int .i64 0, .int .i64 0] 64 (0, 0))) := ⟨h1_⟩
            have n2_ : Aside0 (w.heap.size ≤ gb142) := ⟨h2_⟩
            have n3_ : Aside0 (w.heap.size ≤ gb142) := ⟨h3_⟩
            have n4_ : Aside0 (gb143 ≠ gb142) := ⟨h4_⟩
            have n5_ : Aside0 (gb142 ≠ gb143) := ⟨h5_⟩
            have n6_ : Aside0 (w.heap.size ≤ gb143) := ⟨h6_⟩
            have n7_ : Aside0 (w.heap.size ≤ gb143) := ⟨h7_⟩
            have n8_ : Aside0 (Below w.heap.size w w13) := ⟨h8_⟩
            clear HB
            clear h0_ h1_ h2_ h3_ h4_ h5_ h6_ h7_ h8_
            have BK142 := n0_
            have BK143 := n1_
            have GW142 := n2_
            have GE142 := n3_
            have NB143_142 := n4_
            have NB142_143 := n5_
            have GW143 := n6_
            have GE143 := n7_
            have HB := n8_
            clear n0_ n1_ n2_ n3_ n4_ n5_ n6_ n7_ n8_
            have hHeld : w13.cell? (ad140.add ((a2).toNat * 4)) = some (.int .i64 ((rd_T64 l0 a2).f0)) ∧ w13.cell? ⟨(ad140.add ((a2).toNat * 4)).block, (ad140.add ((a2).toNat * 4)).off + 1, none⟩ = some (.int .i64 ((rd_T64 l0 a2).f1)) ∧ w13.cell? ⟨(ad140.add ((a2).toNat * 4)).block, (ad140.add ((a2).toNat * 4)).off + 2, none⟩ = some (.int .i64 ((rd_T64 l0 a2).f2)) ∧ w13.cell? ⟨(ad140.add ((a2).toNat * 4)).block, (ad140.add ((a2).toNat * 4)).off + 3, none⟩ = some (.int .i64 ((rd_T64 l0 a2).f3)) ∧ w13.cell? (ad140.add ((a3).toNat * 4)) = some (.int .i64 ((rd_T64 l0 a3).f0)) ∧ w13.cell? ⟨(ad140.add ((a3).toNat * 4)).block, (ad140.add ((a3).toNat * 4)).off + 1, none⟩ = some (.int .i64 ((rd_T64 l0 a3).f1)) ∧ w13.cell? ⟨(ad140.add ((a3).toNat * 4)).block, (ad140.add ((a3).toNat * 4)).off + 2, none⟩ = some (.int .i64 ((rd_T64 l0 a3).f2)) ∧ w13.cell? ⟨(ad140.add ((a3).toNat * 4)).block, (ad140.add ((a3).toNat * 4)).off + 3, none⟩ = some (.int .i64 ((rd_T64 l0 a3).f3)) := hS_
            refine norm_ (a' := ?_) ?_ ?_
            rotate_left
            · simp only [putAll, Act.put, List.setIfInBounds_toArray, List.set_cons_zero, List.set_cons_succ]
              rfl
            refine one_ (i := 10) (N := none) #[true, true, true, true, true, true, true, true, true, true, true, false] rfl rfl (one_of HT_.out (by kernel_rfl)) (by decide) (fun K hK => ?_)
            have hs14 : w13.cell? ⟨gb142, 0, none⟩ = some (.int .i64 0) := (blk_cell BK142.out 0).trans rfl
            have hfs14 := blk_frozen BK142.out 0
            have hns14_1 := NB143_142.out
            have hms14_1 := NB142_143.out
            have hs15 : w13.cell? ⟨gb142, 1, none⟩ = some (.int .i64 0) := (blk_cell BK142.out 1).trans rfl
            have hfs15 := blk_frozen BK142.out 1
            have hns15_1 := NB143_142.out
            have hms15_1 := NB142_143.out
            have hs16 : w13.cell? ⟨gb142, 2, none⟩ = some (.int .i64 0) := (blk_cell BK142.out 2).trans rfl
            have hfs16 := blk_frozen BK142.out 2
            have hns16_1 := NB143_142.out
            have hms16_1 := NB142_143.out
            have hs17 : w13.cell? ⟨gb142, 3, none⟩ = some (.int .i64 0) := (blk_cell BK142.out 3).trans rfl
            have hfs17 := blk_frozen BK142.out 3
            have hns17_1 := NB143_142.out
            have hms17_1 := NB142_143.out
            refine skip_ (w1 := ?_) (by rfl) rfl ?_ ?_
            rotate_left
            · go_simp
              rfl
            refine hK.out _ _ ⟨((cell_far (p := ⟨gb142, _, none⟩) (by have t_ := Nat.ne_of_lt (Nat.lt_of_lt_of_le (World.block_lt_of_cell? _ _ hw140_0) GW142.out); first | exact t_ | (rw [add_block] at t_; exact t_) | (rw [add_block] at t_ ⊢; exact t_) | (dsimp only at t_ ⊢; exact t_) | (simp only [add_block] at t_ ⊢; exact t_)) _).trans (((cell_far (p := ⟨gb142, _, none⟩) (by have t_ := Nat.ne_of_lt (Nat.lt_of_lt_of_le (World.block_lt_of_cell? _ _ hw140_0) GW142.out); first | exact t_ | (rw [add_block] at t_; exact t_) | (rw [add_block] at t_ ⊢; exact t_) | (dsimp only at t_ ⊢; exact t_) | (simp only [add_block] at t_ ⊢; exact t_)) _).trans (((cell_far (p := ⟨gb142, _, none⟩) (by have t_ := Nat.ne_of_lt (Nat.lt_of_lt_of_le (World.block_lt_of_cell? _ _ hw140_0) GW142.out); first | exact t_ | (rw [add_block] at t_; exact t_) | (rw [add_block] at t_ ⊢; exact t_) | (dsimp only at t_ ⊢; exact t_) | (simp only [add_block] at t_ ⊢; exact t_)) _).trans (((cell_far (p := ⟨gb142, _, none⟩) (by have t_ := Nat.ne_of_lt (Nat.lt_of_lt_of_le (World.block_lt_of_cell? _ _ hw140_0) GW142.out); first | exact t_ | (rw [add_block] at t_; exact t_) | (rw [add_block] at t_ ⊢; exact t_) | (dsimp only at t_ ⊢; exact t_) | (simp only [add_block] at t_ ⊢; exact t_)) _).trans (hHeld.1)))))))), ((cell_far (p := ⟨gb142, _, none⟩) (by have t_ := Nat.ne_of_lt (Nat.lt_of_lt_of_le (World.block_lt_of_cell? _ _ hw140_1) GW142.out); first | exact t_ | (rw [add_block] at t_; exact t_) | (rw [add_block] at t_ ⊢; exact t_) | (dsimp only at t_ ⊢; exact t_) | (simp only [add_block] at t_ ⊢; exact t_)) _).trans (((cell_far (p := ⟨gb142, _, none⟩) (by have t_ := Nat.ne_of_lt (Nat.lt_of_lt_of_le (World.block_lt_of_cell? _ _ hw140_1) GW142.out); first | exact t_ | (rw [add_block] at t_; exact t_) | (rw [add_block] at t_ ⊢; exact t_) | (dsimp only at t_ ⊢; exact t_) | (simp only [add_block] at t_ ⊢; exact t_)) _).trans (((cell_far (p := ⟨gb142, _, none⟩) (by have t_ := Nat.ne_of_lt (Nat.lt_of_lt_of_le (World.block_lt_of_cell? _ _ hw140_1) GW142.out); first | exact t_ | (rw [add_block] at t_; exact t_) | (rw [add_block] at t_ ⊢; exact t_) | (dsimp only at t_ ⊢; exact t_) | (simp only [add_block] at t_ ⊢; exact t_)) _).trans (((cell_far (p := ⟨gb142, _, none⟩) (by have t_ := Nat.ne_of_lt (Nat.lt_of_lt_of_le (World.block_lt_of_cell? _ _ hw140_1) GW142.out); first | exact t_ | (rw [add_block] at t_; exact t_) | (rw [add_block] at t_ ⊢; exact t_) | (dsimp only at t_ ⊢; exact t_) | (simp only [add_block] at t_ ⊢; exact t_)) _).trans (hHeld.2.1)))))))), ((cell_far (p := ⟨gb142, _, none⟩) (by have t_ := Nat.ne_of_lt (Nat.lt_of_lt_of_le (World.block_lt_of_cell? _ _ hw140_2) GW142.out); first | exact t_ | (rw [add_block] at t_; exact t_) | (rw [add_block] at t_ ⊢; exact t_) | (dsimp only at t_ ⊢; exact t_) | (simp only [add_block] at t_ ⊢; exact t_)) _).trans (((cell_far (p := ⟨gb142, _, none⟩) (by have t_ := Nat.ne_of_lt (Nat.lt_of_lt_of_le (World.block_lt_of_cell? _ _ hw140_2) GW142.out); first | exact t_ | (rw [add_block] at t_; exact t_) | (rw [add_block] at t_ ⊢; exact t_) | (dsimp only at t_ ⊢; exact t_) | (simp only [add_block] at t_ ⊢; exact t_)) _).trans (((cell_far (p := ⟨gb142, _, none⟩) (by have t_ := Nat.ne_of_lt (Nat.lt_of_lt_of_le (World.block_lt_of_cell? _ _ hw140_2) GW142.out); first | exact t_ | (rw [add_block] at t_; exact t_) | (rw [add_block] at t_ ⊢; exact t_) | (dsimp only at t_ ⊢; exact t_) | (simp only [add_block] at t_ ⊢; exact t_)) _).trans (((cell_far (p := ⟨gb142, _, none⟩) (by have t_ := Nat.ne_of_lt (Nat.lt_of_lt_of_le (World.block_lt_of_cell? _ _ hw140_2) GW142.out); first | exact t_ | (rw [add_block] at t_; exact t_) | (rw [add_block] at t_ ⊢; exact t_) | (dsimp only at t_ ⊢; exact t_) | (simp only [add_block] at t_ ⊢; exact t_)) _).trans (hHeld.2.2.1)))))))), ((cell_far (p := ⟨gb142, _, none⟩) (by have t_ := Nat.ne_of_lt (Nat.lt_of_lt_of_le (World.block_lt_of_cell? _ _ hw140_3) GW142.out); first | exact t_ | (rw [add_block] at t_; exact t_) | (rw [add_block] at t_ ⊢; exact t_) | (dsimp only at t_ ⊢; exact t_) | (simp only [add_block] at t_ ⊢; exact t_)) _).trans (((cell_far (p := ⟨gb142, _, none⟩) (by have t_ := Nat.ne_of_lt (Nat.lt_of_lt_of_le (World.block_lt_of_cell? _ _ hw140_3) GW142.out); first | exact t_ | (rw [add_block] at t_; exact t_) | (rw [add_block] at t_ ⊢; exact t_) | (dsimp only at t_ ⊢; exact t_) | (simp only [add_block] at t_ ⊢; exact t_)) _).trans (((cell_far (p := ⟨gb142, _, none⟩) (by have t_ := Nat.ne_of_lt (Nat.lt_of_lt_of_le (World.block_lt_of_cell? _ _ hw140_3) GW142.out); first | exact t_ | (rw [add_block] at t_; exact t_) | (rw [add_block] at t_ ⊢; exact t_) | (dsimp only at t_ ⊢; exact t_) | (simp only [add_block] at t_ ⊢; exact t_)) _).trans (((cell_far (p := ⟨gb142, _, none⟩) (by have t_ := Nat.ne_of_lt (Nat.lt_of_lt_of_le (World.block_lt_of_cell? _ _ hw140_3) GW142.out); first | exact t_ | (rw [add_block] at t_; exact t_) | (rw [add_block] at t_ ⊢; exact t_) | (dsimp only at t_ ⊢; exact t_) | (simp only [add_block] at t_ ⊢; exact t_)) _).trans (hHeld.2.2.2.1)))))))), ((cell_far (p := ⟨gb142, _, none⟩) (by have t_ := Nat.ne_of_lt (Nat.lt_of_lt_of_le (World.block_lt_of_cell? _ _ hw141_0) GW142.out); first | exact t_ | (rw [add_block] at t_; exact t_) | (rw [add_block] at t_ ⊢; exact t_) | (dsimp only at t_ ⊢; exact t_) | (simp only [add_block] at t_ ⊢; exact t_)) _).trans (((cell_far (p := ⟨gb142, _, none⟩) (by have t_ := Nat.ne_of_lt (Nat.lt_of_lt_of_le (World.block_lt_of_cell? _ _ hw141_0) GW142.out); first | exact t_ | (rw [add_block] at t_; exact t_) | (rw [add_block] at t_ ⊢; exact t_) | (dsimp only at t_ ⊢; exact t_) | (simp only [add_block] at t_ ⊢; exact t_)) _).trans (((cell_far (p := ⟨gb142, _, none⟩) (by have t_ := Nat.ne_of_lt (Nat.lt_of_lt_of_le (World.block_lt_of_cell? _ _ hw141_0) GW142.out); first | exact t_ | (rw [add_block] at t_; exact t_) | (rw [add_block] at t_ ⊢; exact t_) | (dsimp only at t_ ⊢; exact t_) | (simp only [add_block] at t_ ⊢; exact t_)) _).trans (((cell_far (p := ⟨gb142, _, none⟩) (by have t_ := Nat.ne_of_lt (Nat.lt_of_lt_of_le (World.block_lt_of_cell? _ _ hw141_0) GW142.out); first | exact t_ | (rw [add_block] at t_; exact t_) | (rw [add_block] at t_ ⊢; exact t_) | (dsimp only at t_ ⊢; exact t_) | (simp only [add_block] at t_ ⊢; exact t_)) _).trans (hHeld.2.2.2.2.1)))))))), ((cell_far (p := ⟨gb142, _, none⟩) (by have t_ := Nat.ne_of_lt (Nat.lt_of_lt_of_le (World.block_lt_of_cell? _ _ hw141_1) GW142.out); first | exact t_ | (rw [add_block] at t_; exact t_) | (rw [add_block] at t_ ⊢; exact t_) | (dsimp only at t_ ⊢; exact t_) | (simp only [add_block] at t_ ⊢; exact t_)) _).trans (((cell_far (p := ⟨gb142, _, none⟩) (by have t_ := Nat.ne_of_lt (Nat.lt_of_lt_of_le (World.block_lt_of_cell? _ _ hw141_1) GW142.out); first | exact t_ | (rw [add_block] at t_; exact t_) | (rw [add_block] at t_ ⊢; exact t_) | (dsimp only at t_ ⊢; exact t_) | (simp only [add_block] at t_ ⊢; exact t_)) _).trans (((cell_far (p := ⟨gb142, _, none⟩) (by have t_ := Nat.ne_of_lt (Nat.lt_of_lt_of_le (World.block_lt_of_cell? _ _ hw141_1) GW142.out); first | exact t_ | (rw [add_block] at t_; exact t_) | (rw [add_block] at t_ ⊢; exact t_) | (dsimp only at t_ ⊢; exact t_) | (simp only [add_block] at t_ ⊢; exact t_)) _).trans (((cell_far (p := ⟨gb142, _, none⟩) (by have t_ := Nat.ne_of_lt (Nat.lt_of_lt_of_le (World.block_lt_of_cell? _ _ hw141_1) GW142.out); first | exact t_ | (rw [add_block] at t_; exact t_) | (rw [add_block] at t_ ⊢; exact t_) | (dsimp only at t_ ⊢; exact t_) | (simp only [add_block] at t_ ⊢; exact t_)) _).trans (hHeld.2.2.2.2.2.1)))))))), ((cell_far (p := ⟨gb142, _, none⟩) (by have t_ := Nat.ne_of_lt (Nat.lt_of_lt_of_le (World.block_lt_of_cell? _ _ hw141_2) GW142.out); first | exact t_ | (rw [add_block] at t_; exact t_) | (rw [add_block] at t_ ⊢; exact t_) | (dsimp only at t_ ⊢; exact t_) | (simp only [add_block] at t_ ⊢; exact t_)) _).trans (((cell_far (p := ⟨gb142, _, none⟩) (by have t_ := Nat.ne_of_lt (Nat.lt_of_lt_of_le (World.block_lt_of_cell? _ _ hw141_2) GW142.out); first | exact t_ | (rw [add_block] at t_; exact t_) | (rw [add_block] at t_ ⊢; exact t_) | (dsimp only at t_ ⊢; exact t_) | (simp only [add_block] at t_ ⊢; exact t_)) _).trans (((cell_far (p := ⟨gb142, _, none⟩) (by have t_ := Nat.ne_of_lt (Nat.lt_of_lt_of_le (World.block_lt_of_cell? _ _ hw141_2) GW142.out); first | exact t_ | (rw [add_block] at t_; exact t_) | (rw [add_block] at t_ ⊢; exact t_) | (dsimp only at t_ ⊢; exact t_) | (simp only [add_block] at t_ ⊢; exact t_)) _).trans (((cell_far (p := ⟨gb142, _, none⟩) (by have t_ := Nat.ne_of_lt (Nat.lt_of_lt_of_le (World.block_lt_of_cell? _ _ hw141_2) GW142.out); first | exact t_ | (rw [add_block] at t_; exact t_) | (rw [add_block] at t_ ⊢; exact t_) | (dsimp only at t_ ⊢; exact t_) | (simp only [add_block] at t_ ⊢; exact t_)) _).trans (hHeld.2.2.2.2.2.2.1)))))))), ((cell_far (p := ⟨gb142, _, none⟩) (by have t_ := Nat.ne_of_lt (Nat.lt_of_lt_of_le (World.block_lt_of_cell? _ _ hw141_3) GW142.out); first | exact t_ | (rw [add_block] at t_; exact t_) | (rw [add_block] at t_ ⊢; exact t_) | (dsimp only at t_ ⊢; exact t_) | (simp only [add_block] at t_ ⊢; exact t_)) _).trans (((cell_far (p := ⟨gb142, _, none⟩) (by have t_ := Nat.ne_of_lt (Nat.lt_of_lt_of_le (World.block_lt_of_cell? _ _ hw141_3) GW142.out); first | exact t_ | (rw [add_block] at t_; exact t_) | (rw [add_block] at t_ ⊢; exact t_) | (dsimp only at t_ ⊢; exact t_) | (simp only [add_block] at t_ ⊢; exact t_)) _).trans (((cell_far (p := ⟨gb142, _, none⟩) (by have t_ := Nat.ne_of_lt (Nat.lt_of_lt_of_le (World.block_lt_of_cell? _ _ hw141_3) GW142.out); first | exact t_ | (rw [add_block] at t_; exact t_) | (rw [add_block] at t_ ⊢; exact t_) | (dsimp only at t_ ⊢; exact t_) | (simp only [add_block] at t_ ⊢; exact t_)) _).trans (((cell_far (p := ⟨gb142, _, none⟩) (by have t_ := Nat.ne_of_lt (Nat.lt_of_lt_of_le (World.block_lt_of_cell? _ _ hw141_3) GW142.out); first | exact t_ | (rw [add_block] at t_; exact t_) | (rw [add_block] at t_ ⊢; exact t_) | (dsimp only at t_ ⊢; exact t_) | (simp only [add_block] at t_ ⊢; exact t_)) _).trans (hHeld.2.2.2.2.2.2.2))))))))⟩ (fun hHeld => ?_)
            clear hK K
            refine one_ (i := 11) (N := none) #[true, true, true, true, true, true, true, true, true, true, true, true] rfl rfl (one_of HT_.out (by kernel_rfl)) (by decide) (fun K hK => ?_)
            have hs18 : w13.cell? ⟨gb143, 0, none⟩ = some (.int .i64 0) := (blk_cell BK143.out 0).trans rfl
            have hfs18 := blk_frozen BK143.out 0
            have hns18_0 := NB142_143.out
            have hms18_0 := NB143_142.out
            have hs19 : w13.cell? ⟨gb143, 1, none⟩ = some (.int .i64 0) := (blk_cell BK143.out 1).trans rfl
            have hfs19 := blk_frozen BK143.out 1
            have hns19_0 := NB142_143.out
            have hms19_0 := NB143_142.out
            have hs20 : w13.cell? ⟨gb143, 2, none⟩ = some (.int .i64 0) := (blk_cell BK143.out 2).trans rfl
            have hfs20 := blk_frozen BK143.out 2
            have hns20_0 := NB142_143.out
            have hms20_0 := NB143_142.out
            have hs21 : w13.cell? ⟨gb143, 3, none⟩ = some (.int .i64 0) := (blk_cell BK143.out 3).trans rfl
            have hfs21 := blk_frozen BK143.out 3
            have hns21_0 := NB142_143.out
            have hms21_0 := NB143_142.out
            refine skip_ (w1 := ?_) (by rfl) rfl ?_ ?_
            rotate_left
            · go_simp
              rfl
            refine hK.out _ _ ⟨((cell_far (p := ⟨gb143, _, none⟩) (by have t_ := Nat.ne_of_lt (Nat.lt_of_lt_of_le (World.block_lt_of_cell? _ _ hw140_0) GW143.out); first | exact t_ | (rw [add_block] at t_; exact t_) | (rw [add_block] at t_ ⊢; exact t_) | (dsimp only at t_ ⊢; exact t_) | (simp only [add_block] at t_ ⊢; exact t_)) _).trans (((cell_far (p := ⟨gb143, _, none⟩) (by have t_ := Nat.ne_of_lt (Nat.lt_of_lt_of_le (World.block_lt_of_cell? _ _ hw140_0) GW143.out); first | exact t_ | (rw [add_block] at t_; exact t_) | (rw [add_block] at t_ ⊢; exact t_) | (dsimp only at t_ ⊢; exact t_) | (simp only [add_block] at t_ ⊢; exact t_)) _).trans (((cell_far (p := ⟨gb143, _, none⟩) (by have t_ := Nat.ne_of_lt (Nat.lt_of_lt_of_le (World.block_lt_of_cell? _ _ hw140_0) GW143.out); first | exact t_ | (rw [add_block] at t_; exact t_) | (rw [add_block] at t_ ⊢; exact t_) | (dsimp only at t_ ⊢; exact t_) | (simp only [add_block] at t_ ⊢; exact t_)) _).trans (((cell_far (p := ⟨gb143, _, none⟩) (by have t_ := Nat.ne_of_lt (Nat.lt_of_lt_of_le (World.block_lt_of_cell? _ _ hw140_0) GW143.out); first | exact t_ | (rw [add_block] at t_; exact t_) | (rw [add_block] at t_ ⊢; exact t_) | (dsimp only at t_ ⊢; exact t_) | (simp only [add_block] at t_ ⊢; exact t_)) _).trans (hHeld.1)))))))), ((cell_far (p := ⟨gb143, _, none⟩) (by have t_ := Nat.ne_of_lt (Nat.lt_of_lt_of_le (World.block_lt_of_cell? _ _ hw140_1) GW143.out); first | exact t_ | (rw [add_block] at t_; exact t_) | (rw [add_block] at t_ ⊢; exact t_) | (dsimp only at t_ ⊢; exact t_) | (simp only [add_block] at t_ ⊢; exact t_)) _).trans (((cell_far (p := ⟨gb143, _, none⟩) (by have t_ := Nat.ne_of_lt (Nat.lt_of_lt_of_le (World.block_lt_of_cell? _ _ hw140_1) GW143.out); first | exact t_ | (rw [add_block] at t_; exact t_) | (rw [add_block] at t_ ⊢; exact t_) | (dsimp only at t_ ⊢; exact t_) | (simp only [add_block] at t_ ⊢; exact t_)) _).trans (((cell_far (p := ⟨gb143, _, none⟩) (by have t_ := Nat.ne_of_lt (Nat.lt_of_lt_of_le (World.block_lt_of_cell? _ _ hw140_1) GW143.out); first | exact t_ | (rw [add_block] at t_; exact t_) | (rw [add_block] at t_ ⊢; exact t_) | (dsimp only at t_ ⊢; exact t_) | (simp only [add_block] at t_ ⊢; exact t_)) _).trans (((cell_far (p := ⟨gb143, _, none⟩) (by have t_ := Nat.ne_of_lt (Nat.lt_of_lt_of_le (World.block_lt_of_cell? _ _ hw140_1) GW143.out); first | exact t_ | (rw [add_block] at t_; exact t_) | (rw [add_block] at t_ ⊢; exact t_) | (dsimp only at t_ ⊢; exact t_) | (simp only [add_block] at t_ ⊢; exact t_)) _).trans (hHeld.2.1)))))))), ((cell_far (p := ⟨gb143, _, none⟩) (by have t_ := Nat.ne_of_lt (Nat.lt_of_lt_of_le (World.block_lt_of_cell? _ _ hw140_2) GW143.out); first | exact t_ | (rw [add_block] at t_; exact t_) | (rw [add_block] at t_ ⊢; exact t_) | (dsimp only at t_ ⊢; exact t_) | (simp only [add_block] at t_ ⊢; exact t_)) _).trans (((cell_far (p := ⟨gb143, _, none⟩) (by have t_ := Nat.ne_of_lt (Nat.lt_of_lt_of_le (World.block_lt_of_cell? _ _ hw140_2) GW143.out); first | exact t_ | (rw [add_block] at t_; exact t_) | (rw [add_block] at t_ ⊢; exact t_) | (dsimp only at t_ ⊢; exact t_) | (simp only [add_block] at t_ ⊢; exact t_)) _).trans (((cell_far (p := ⟨gb143, _, none⟩) (by have t_ := Nat.ne_of_lt (Nat.lt_of_lt_of_le (World.block_lt_of_cell? _ _ hw140_2) GW143.out); first | exact t_ | (rw [add_block] at t_; exact t_) | (rw [add_block] at t_ ⊢; exact t_) | (dsimp only at t_ ⊢; exact t_) | (simp only [add_block] at t_ ⊢; exact t_)) _).trans (((cell_far (p := ⟨gb143, _, none⟩) (by have t_ := Nat.ne_of_lt (Nat.lt_of_lt_of_le (World.block_lt_of_cell? _ _ hw140_2) GW143.out); first | exact t_ | (rw [add_block] at t_; exact t_) | (rw [add_block] at t_ ⊢; exact t_) | (dsimp only at t_ ⊢; exact t_) | (simp only [add_block] at t_ ⊢; exact t_)) _).trans (hHeld.2.2.1)))))))), ((cell_far (p := ⟨gb143, _, none⟩) (by have t_ := Nat.ne_of_lt (Nat.lt_of_lt_of_le (World.block_lt_of_cell? _ _ hw140_3) GW143.out); first | exact t_ | (rw [add_block] at t_; exact t_) | (rw [add_block] at t_ ⊢; exact t_) | (dsimp only at t_ ⊢; exact t_) | (simp only [add_block] at t_ ⊢; exact t_)) _).trans (((cell_far (p := ⟨gb143, _, none⟩) (by have t_ := Nat.ne_of_lt (Nat.lt_of_lt_of_le (World.block_lt_of_cell? _ _ hw140_3) GW143.out); first | exact t_ | (rw [add_block] at t_; exact t_) | (rw [add_block] at t_ ⊢; exact t_) | (dsimp only at t_ ⊢; exact t_) | (simp only [add_block] at t_ ⊢; exact t_)) _).trans (((cell_far (p := ⟨gb143, _, none⟩) (by have t_ := Nat.ne_of_lt (Nat.lt_of_lt_of_le (World.block_lt_of_cell? _ _ hw140_3) GW143.out); first | exact t_ | (rw [add_block] at t_; exact t_) | (rw [add_block] at t_ ⊢; exact t_) | (dsimp only at t_ ⊢; exact t_) | (simp only [add_block] at t_ ⊢; exact t_)) _).trans (((cell_far (p := ⟨gb143, _, none⟩) (by have t_ := Nat.ne_of_lt (Nat.lt_of_lt_of_le (World.block_lt_of_cell? _ _ hw140_3) GW143.out); first | exact t_ | (rw [add_block] at t_; exact t_) | (rw [add_block] at t_ ⊢; exact t_) | (dsimp only at t_ ⊢; exact t_) | (simp only [add_block] at t_ ⊢; exact t_)) _).trans (hHeld.2.2.2.1)))))))), ((cell_far (p := ⟨gb143, _, none⟩) (by have t_ := Nat.ne_of_lt (Nat.lt_of_lt_of_le (World.block_lt_of_cell? _ _ hw141_0) GW143.out); first | exact t_ | (rw [add_block] at t_; exact t_) | (rw [add_block] at t_ ⊢; exact t_) | (dsimp only at t_ ⊢; exact t_) | (simp only [add_block] at t_ ⊢; exact t_)) _).trans (((cell_far (p := ⟨gb143, _, none⟩) (by have t_ := Nat.ne_of_lt (Nat.lt_of_lt_of_le (World.block_lt_of_cell? _ _ hw141_0) GW143.out); first | exact t_ | (rw [add_block] at t_; exact t_) | (rw [add_block] at t_ ⊢; exact t_) | (dsimp only at t_ ⊢; exact t_) | (simp only [add_block] at t_ ⊢; exact t_)) _).trans (((cell_far (p := ⟨gb143, _, none⟩) (by have t_ := Nat.ne_of_lt (Nat.lt_of_lt_of_le (World.block_lt_of_cell? _ _ hw141_0) GW143.out); first | exact t_ | (rw [add_block] at t_; exact t_) | (rw [add_block] at t_ ⊢; exact t_) | (dsimp only at t_ ⊢; exact t_) | (simp only [add_block] at t_ ⊢; exact t_)) _).trans (((cell_far (p := ⟨gb143, _, none⟩) (by have t_ := Nat.ne_of_lt (Nat.lt_of_lt_of_le (World.block_lt_of_cell? _ _ hw141_0) GW143.out); first | exact t_ | (rw [add_block] at t_; exact t_) | (rw [add_block] at t_ ⊢; exact t_) | (dsimp only at t_ ⊢; exact t_) | (simp only [add_block] at t_ ⊢; exact t_)) _).trans (hHeld.2.2.2.2.1)))))))), ((cell_far (p := ⟨gb143, _, none⟩) (by have t_ := Nat.ne_of_lt (Nat.lt_of_lt_of_le (World.block_lt_of_cell? _ _ hw141_1) GW143.out); first | exact t_ | (rw [add_block] at t_; exact t_) | (rw [add_block] at t_ ⊢; exact t_) | (dsimp only at t_ ⊢; exact t_) | (simp only [add_block] at t_ ⊢; exact t_)) _).trans (((cell_far (p := ⟨gb143, _, none⟩) (by have t_ := Nat.ne_of_lt (Nat.lt_of_lt_of_le (World.block_lt_of_cell? _ _ hw141_1) GW143.out); first | exact t_ | (rw [add_block] at t_; exact t_) | (rw [add_block] at t_ ⊢; exact t_) | (dsimp only at t_ ⊢; exact t_) | (simp only [add_block] at t_ ⊢; exact t_)) _).trans (((cell_far (p := ⟨gb143, _, none⟩) (by have t_ := Nat.ne_of_lt (Nat.lt_of_lt_of_le (World.block_lt_of_cell? _ _ hw141_1) GW143.out); first | exact t_ | (rw [add_block] at t_; exact t_) | (rw [add_block] at t_ ⊢; exact t_) | (dsimp only at t_ ⊢; exact t_) | (simp only [add_block] at t_ ⊢; exact t_)) _).trans (((cell_far (p := ⟨gb143, _, none⟩) (by have t_ := Nat.ne_of_lt (Nat.lt_of_lt_of_le (World.block_lt_of_cell? _ _ hw141_1) GW143.out); first | exact t_ | (rw [add_block] at t_; exact t_) | (rw [add_block] at t_ ⊢; exact t_) | (dsimp only at t_ ⊢; exact t_) | (simp only [add_block] at t_ ⊢; exact t_)) _).trans (hHeld.2.2.2.2.2.1)))))))), ((cell_far (p := ⟨gb143, _, none⟩) (by have t_ := Nat.ne_of_lt (Nat.lt_of_lt_of_le (World.block_lt_of_cell? _ _ hw141_2) GW143.out); first | exact t_ | (rw [add_block] at t_; exact t_) | (rw [add_block] at t_ ⊢; exact t_) | (dsimp only at t_ ⊢; exact t_) | (simp only [add_block] at t_ ⊢; exact t_)) _).trans (((cell_far (p := ⟨gb143, _, none⟩) (by have t_ := Nat.ne_of_lt (Nat.lt_of_lt_of_le (World.block_lt_of_cell? _ _ hw141_2) GW143.out); first | exact t_ | (rw [add_block] at t_; exact t_) | (rw [add_block] at t_ ⊢; exact t_) | (dsimp only at t_ ⊢; exact t_) | (simp only [add_block] at t_ ⊢; exact t_)) _).trans (((cell_far (p := ⟨gb143, _, none⟩) (by have t_ := Nat.ne_of_lt (Nat.lt_of_lt_of_le (World.block_lt_of_cell? _ _ hw141_2) GW143.out); first | exact t_ | (rw [add_block] at t_; exact t_) | (rw [add_block] at t_ ⊢; exact t_) | (dsimp only at t_ ⊢; exact t_) | (simp only [add_block] at t_ ⊢; exact t_)) _).trans (((cell_far (p := ⟨gb143, _, none⟩) (by have t_ := Nat.ne_of_lt (Nat.lt_of_lt_of_le (World.block_lt_of_cell? _ _ hw141_2) GW143.out); first | exact t_ | (rw [add_block] at t_; exact t_) | (rw [add_block] at t_ ⊢; exact t_) | (dsimp only at t_ ⊢; exact t_) | (simp only [add_block] at t_ ⊢; exact t_)) _).trans (hHeld.2.2.2.2.2.2.1)))))))), ((cell_far (p := ⟨gb143, _, none⟩) (by have t_ := Nat.ne_of_lt (Nat.lt_of_lt_of_le (World.block_lt_of_cell? _ _ hw141_3) GW143.out); first | exact t_ | (rw [add_block] at t_; exact t_) | (rw [add_block] at t_ ⊢; exact t_) | (dsimp only at t_ ⊢; exact t_) | (simp only [add_block] at t_ ⊢; exact t_)) _).trans (((cell_far (p := ⟨gb143, _, none⟩) (by have t_ := Nat.ne_of_lt (Nat.lt_of_lt_of_le (World.block_lt_of_cell? _ _ hw141_3) GW143.out); first | exact t_ | (rw [add_block] at t_; exact t_) | (rw [add_block] at t_ ⊢; exact t_) | (dsimp only at t_ ⊢; exact t_) | (simp only [add_block] at t_ ⊢; exact t_)) _).trans (((cell_far (p := ⟨gb143, _, none⟩) (by have t_ := Nat.ne_of_lt (Nat.lt_of_lt_of_le (World.block_lt_of_cell? _ _ hw141_3) GW143.out); first | exact t_ | (rw [add_block] at t_; exact t_) | (rw [add_block] at t_ ⊢; exact t_) | (dsimp only at t_ ⊢; exact t_) | (simp only [add_block] at t_ ⊢; exact t_)) _).trans (((cell_far (p := ⟨gb143, _, none⟩) (by have t_ := Nat.ne_of_lt (Nat.lt_of_lt_of_le (World.block_lt_of_cell? _ _ hw141_3) GW143.out); first | exact t_ | (rw [add_block] at t_; exact t_) | (rw [add_block] at t_ ⊢; exact t_) | (dsimp only at t_ ⊢; exact t_) | (simp only [add_block] at t_ ⊢; exact t_)) _).trans (hHeld.2.2.2.2.2.2.2))))))))⟩ (fun hHeld => ?_)
            clear hK K
            refine done_ (done_of HT_.out (by kernel_rfl)) ?_
            have hnb22 := NB142_143.out
            have hnc22 := NB143_142.out
            have hcz23_0 : w13.cell? ⟨gb142, 0, none⟩ = some (.int .i64 0) := (blk_cell BK142.out 0).trans rfl
            have hcz23_1 : w13.cell? ⟨gb142, 1, none⟩ = some (.int .i64 0) := (blk_cell BK142.out 1).trans rfl
            have hcz23_2 : w13.cell? ⟨gb142, 2, none⟩ = some (.int .i64 0) := (blk_cell BK142.out 2).trans rfl
            have hcz23_3 : w13.cell? ⟨gb142, 3, none⟩ = some (.int .i64 0) := (blk_cell BK142.out 3).trans rfl
            have hfz23_0 := blk_frozen BK142.out 0
            have hfz23_1 := blk_frozen BK142.out 1
            have hfz23_2 := blk_frozen BK142.out 2
            have hfz23_3 := blk_frozen BK142.out 3
            have hcz24_0 : w13.cell? ⟨gb143, 0, none⟩ = some (.int .i64 0) := (blk_cell BK143.out 0).trans rfl
            have hcz24_1 : w13.cell? ⟨gb143, 1, none⟩ = some (.int .i64 0) := (blk_cell BK143.out 1).trans rfl
            have hcz24_2 : w13.cell? ⟨gb143, 2, none⟩ = some (.int .i64 0) := (blk_cell BK143.out 2).trans rfl
            have hcz24_3 : w13.cell? ⟨gb143, 3, none⟩ = some (.int .i64 0) := (blk_cell BK143.out 3).trans rfl
            have hfz24_0 := blk_frozen BK143.out 0
            have hfz24_1 := blk_frozen BK143.out 1
            have hfz24_2 := blk_frozen BK143.out 2
            have hfz24_3 := blk_frozen BK143.out 3
            try go_wp2
            go_ret
            exact ⟨by first | rfl | (simp [errW_none, errW_some] <;> rfl) | (simp [*, errW_none, errW_some] <;> rfl), by repeat (first | (with_reducible first | exact HB.out | apply below_alloc | apply pw_below_drewN | apply below_drew1 | refine below_set ?_ GE142.out | refine below_set ?_ GE143.out) | exact HB.out)⟩
          · rw [if_neg c9] at H
            have c9b0 : (a1 == 1) = false := beq_eq_false_iff_ne.mpr c9
            have c9b1 : (a1 != 1) = true := bne_iff_ne.mpr c9
            by_cases c25 : a1 = 2
            · rw [if_pos c25] at H
              have c25b0 : (a1 == 2) = true := beq_iff_eq.mpr c25
              have c25b1 : (a1 != 2) = false := bne_eq_false_iff_eq.mpr c25
              clear c25
              obtain rfl := Option.some.inj H
              go_enter Try.func104, Try.ntmps104
              try go_wp2
              have n0_ := Aside0.mk (below_drew1 HB.out)
              clear HB
              have HB := n0_
              clear n0_
              have p140 : 0 ≤ (a2 : Int) := of_decide_eq_true (by first | (with_reducible assumption) | assumption)
              have q140 : a2 < (l0.length : Int) := of_decide_eq_true (by first | (with_reducible assumption) | assumption)
              obtain ⟨ad140, e140, hx140_0, hx140_1, hx140_2, hx140_3⟩ := at_T64 HR0.out a2 p140 q140
              have hw140_3 := hx140_3
              have hw140_2 := hx140_2
              have hw140_1 := hx140_1
              have hw140_0 := hx140_0
              cases e140
              replace hx140_0 := (HB.out.cell (World.block_lt_of_cell? w _ hx140_0)).trans hx140_0
              replace hx140_1 := (HB.out.cell (World.block_lt_of_cell? w _ hx140_1)).trans hx140_1
              replace hx140_2 := (HB.out.cell (World.block_lt_of_cell? w _ hx140_2)).trans hx140_2
              replace hx140_3 := (HB.out.cell (World.block_lt_of_cell? w _ hx140_3)).trans hx140_3
              replace p140 := eq_true p140
              replace q140 := eq_true q140
              have p141 : 0 ≤ (a3 : Int) := of_decide_eq_true (by first | (with_reducible assumption) | assumption)
              have q141 : a3 < (l0.length : Int) := of_decide_eq_true (by first | (with_reducible assumption) | assumption)
              obtain ⟨ad141, e141, hx141_0, hx141_1, hx141_2, hx141_3⟩ := at_T64 HR0.out a3 p141 q141
              have hw141_3 := hx141_3
              have hw141_2 := hx141_2
              have hw141_1 := hx141_1
              have hw141_0 := hx141_0
              obtain rfl : ad140 = ad141 := (by injection e141)
              replace hx141_0 := (HB.out.cell (World.block_lt_of_cell? w _ hx141_0)).trans hx141_0
              replace hx141_1 := (HB.out.cell (World.block_lt_of_cell? w _ hx141_1)).trans hx141_1
              replace hx141_2 := (HB.out.cell (World.block_lt_of_cell? w _ hx141_2)).trans hx141_2
              replace hx141_3 := (HB.out.cell (World.block_lt_of_cell? w _ hx141_3)).trans hx141_3
              replace p141 := eq_true p141
              replace q141 := eq_true q141
              refine start_ (n := 12) (S := fun w' => w'.cell? (ad140.add ((a2).toNat * 4)) = some (.int .i64 ((rd_T64 l0 a2).f0)) ∧ w'.cell? ⟨(ad140.add ((a2).toNat * 4)).block, (ad140.add ((a2).toNat * 4)).off + 1, none⟩ = some (.int .i64 ((rd_T64 l0 a2).f1)) ∧ w'.cell? ⟨(ad140.add ((a2).toNat * 4)).block, (ad140.add ((a2).toNat * 4)).off + 2, none⟩ = some (.int .i64 ((rd_T64 l0 a2).f2)) ∧ w'.cell? ⟨(ad140.add ((a2).toNat * 4)).block, (ad140.add ((a2).toNat * 4)).off + 3, none⟩ = some (.int .i64 ((rd_T64 l0 a2).f3)) ∧ w'.cell? (ad140.add ((a3).toNat * 4)) = some (.int .i64 ((rd_T64 l0 a3).f0)) ∧ w'.cell? ⟨(ad140.add ((a3).toNat * 4)).block, (ad140.add ((a3).toNat * 4)).off + 1, none⟩ = some (.int .i64 ((rd_T64 l0 a3).f1)) ∧ w'.cell? ⟨(ad140.add ((a3).toNat * 4)).block, (ad140.add ((a3).toNat * 4)).off + 2, none⟩ = some (.int .i64 ((rd_T64 l0 a3).f2)) ∧ w'.cell? ⟨(ad140.add ((a3).toNat * 4)).block, (ad140.add ((a3).toNat * 4)).off + 3, none⟩ = some (.int .i64 ((rd_T64 l0 a3).f3))) (ds := []) #[false, false, false, false, false, false, false, false, false, false, false, false] (by kernel_rfl) rfl rfl ⟨((HB.out.cell (World.block_lt_of_cell? w _ hw140_0)).trans hw140_0), ((HB.out.cell (World.block_lt_of_cell? w _ hw140_1)).trans hw140_1), ((HB.out.cell (World.block_lt_of_cell? w _ hw140_2)).trans hw140_2), ((HB.out.cell (World.block_lt_of_cell? w _ hw140_3)).trans hw140_3), ((HB.out.cell (World.block_lt_of_cell? w _ hw141_0)).trans hw141_0), ((HB.out.cell (World.block_lt_of_cell? w _ hw141_1)).trans hw141_1), ((HB.out.cell (World.block_lt_of_cell? w _ hw141_2)).trans hw141_2), ((HB.out.cell (World.block_lt_of_cell? w _ hw141_3)).trans hw141_3)⟩ (fun hHeld => ?_); refine with_tabW spec_l3Gap.tab1 spec_l3Gap.bits1 (fun HT_ HW_ => ?_)
              generalize w.drew = w26 at HB hx140_0 hx140_1 hx140_2 hx140_3 hx141_0 hx141_1 hx141_2 hx141_3 hHeld ⊢
              refine pure_ (i := 0) (N := some 11) (v := ?_) (a' := ?_) #[true, false, false, false, false, false, false, false, false, false, false, false] rfl rfl (any_of HT_.out (by kernel_rfl)) (fun _ _ _ h => h) (Or.inl ⟨by rfl, ?_⟩) ?_ ?_
              rotate_left
              · intro w'
                go_simp
                with_reducible rfl
              rotate_left
              · simp only [Act.put, List.setIfInBounds_toArray, List.set_cons_zero, List.set_cons_succ, i64_w, i32_w]
                rfl
              refine pure_ (i := 1) (N := some 12) (v := ?_) (a' := ?_) #[true, true, false, false, false, false, false, false, false, false, false, false] rfl rfl (any_of HT_.out (by kernel_rfl)) (fun _ _ _ h => h) (Or.inl ⟨by rfl, ?_⟩) ?_ ?_
              rotate_left
              · intro w'
                go_simp
                with_reducible rfl
              rotate_left
              · simp only [Act.put, List.setIfInBounds_toArray, List.set_cons_zero, List.set_cons_succ, i64_w, i32_w]
                rfl
              refine pure_ (i := 2) (N := some 13) (v := ?_) (a' := ?_) #[true, true, true, false, false, false, false, false, false, false, false, false] rfl rfl (any_of HT_.out (by kernel_rfl)) (fun _ _ _ h => h) (Or.inl ⟨by rfl, ?_⟩) ?_ ?_
              rotate_left
              · intro w'
                go_simp
                with_reducible rfl
              rotate_left
              · simp only [Act.put, List.setIfInBounds_toArray, List.set_cons_zero, List.set_cons_succ, i64_w, i32_w]
                rfl
              refine pure_ (i := 4) (N := some 15) (v := ?_) (a' := ?_) #[true, true, true, false, true, false, false, false, false, false, false, false] rfl rfl (any_of HT_.out (by kernel_rfl)) (fun _ _ _ h => h) (Or.inl ⟨by rfl, ?_⟩) ?_ ?_
              rotate_left
              · intro w'
                go_simp
                with_reducible rfl
              rotate_left
              · simp only [Act.put, List.setIfInBounds_toArray, List.set_cons_zero, List.set_cons_succ, i64_w, i32_w]
                rfl
              refine pure_ (i := 5) (N := some 16) (v := ?_) (a' := ?_) #[true, true, true, false, true, true, false, false, false, false, false, false] rfl rfl (any_of HT_.out (by kernel_rfl)) (fun _ _ _ h => h) (Or.inl ⟨by rfl, ?_⟩) ?_ ?_
              rotate_left
              · intro w'
                go_simp
                with_reducible rfl
              rotate_left
              · simp only [Act.put, List.setIfInBounds_toArray, List.set_cons_zero, List.set_cons_succ, i64_w, i32_w]
                rfl
              refine pure_ (i := 6) (N := some 17) (v := ?_) (a' := ?_) #[true, true, true, false, true, true, true, false, false, false, false, false] rfl rfl (any_of HT_.out (by kernel_rfl)) (fun _ _ _ h => h) (Or.inl ⟨by rfl, ?_⟩) ?_ ?_
              rotate_left
              · intro w'
                go_simp
                with_reducible rfl
              rotate_left
              · simp only [Act.put, List.setIfInBounds_toArray, List.set_cons_zero, List.set_cons_succ, i64_w, i32_w]
                rfl
              refine take_ (i := 3) (N := some 14) (v := ?_) (a' := ?_) #[true, true, true, true, true, true, true, false, false, false, false, false] rfl rfl (take_ofW HT_.out HW_.out (by kernel_rfl)) (fun _ _ _ h => h) (Or.inl ⟨by rfl, ?_⟩) hHeld ?_ ?_
              rotate_left
              · rintro w' ⟨s0, s1, s2, s3, s4, s5, s6, s7⟩
                go_simp
                with_reducible rfl
              rotate_left
              · simp only [Act.put, List.setIfInBounds_toArray, List.set_cons_zero, List.set_cons_succ, i64_w, i32_w]
                rfl
              refine take_ (i := 7) (N := some 18) (v := ?_) (a' := ?_) #[true, true, true, true, true, true, true, true, false, false, false, false] rfl rfl (take_ofW HT_.out HW_.out (by kernel_rfl)) (fun _ _ _ h => h) (Or.inl ⟨by rfl, ?_⟩) hHeld ?_ ?_
              rotate_left
              · rintro w' ⟨s0, s1, s2, s3, s4, s5, s6, s7⟩
                go_simp
                with_reducible rfl
              rotate_left
              · simp only [Act.put, List.setIfInBounds_toArray, List.set_cons_zero, List.set_cons_succ, i64_w, i32_w]
                rfl
              refine join_ (σ := Nat × Nat) 2 #[true, true, true, true, true, true, true, true, true, true, false, false] (fun s_ => [(9, .pointer (some ⟨s_.1, 0, none⟩)), (10, .pointer (some ⟨s_.2, 0, none⟩))]) (fun s_ w' => (w'.cell? (ad140.add ((a2).toNat * 4)) = some (.int .i64 ((rd_T64 l0 a2).f0)) ∧ w'.cell? ⟨(ad140.add ((a2).toNat * 4)).block, (ad140.add ((a2).toNat * 4)).off + 1, none⟩ = some (.int .i64 ((rd_T64 l0 a2).f1)) ∧ w'.cell? ⟨(ad140.add ((a2).toNat * 4)).block, (ad140.add ((a2).toNat * 4)).off + 2, none⟩ = some (.int .i64 ((rd_T64 l0 a2).f2)) ∧ w'.cell? ⟨(ad140.add ((a2).toNat * 4)).block, (ad140.add ((a2).toNat * 4)).off + 3, none⟩ = some (.int .i64 ((rd_T64 l0 a2).f3)) ∧ w'.cell? (ad140.add ((a3).toNat * 4)) = some (.int .i64 ((rd_T64 l0 a3).f0)) ∧ w'.cell? ⟨(ad140.add ((a3).toNat * 4)).block, (ad140.add ((a3).toNat * 4)).off + 1, none⟩ = some (.int .i64 ((rd_T64 l0 a3).f1)) ∧ w'.cell? ⟨(ad140.add ((a3).toNat * 4)).block, (ad140.add ((a3).toNat * 4)).off + 2, none⟩ = some (.int .i64 ((rd_T64 l0 a3).f2)) ∧ w'.cell? ⟨(ad140.add ((a3).toNat * 4)).block, (ad140.add ((a3).toNat * 4)).off + 3, none⟩ = some (.int .i64 ((rd_T64 l0 a3).f3))) ∧ (w'.heap[s_.1]? = some (.cells #[.int .i64 0, .int .i64 0, .int .i64 0, .int .i64 0] 64 (0, 0))) ∧ (w'.heap[s_.2]? = some (.cells #[.int .i64 0, .int .i64 0, .int .i64 0, .int .i64 0] 64 (0, 0))) ∧ (w.heap.size ≤ s_.1) ∧ (w.heap.size ≤ s_.1) ∧ (s_.2 ≠ s_.1) ∧ (s_.1 ≠ s_.2) ∧ (w.heap.size ≤ s_.2) ∧ (w.heap.size ≤ s_.2) ∧ (Below w.heap.size w w')) ?_ ?_
              rotate_left
              · intro hCont
                refine two_ (i := 8) (j := 9) (Ni := some 9) (Nj := some 10) #[true, true, true, true, true, true, true, true, true, false, false, false] #[true, true, true, true, true, true, true, true, false, true, false, false] rfl rfl rfl rfl (two_of HT_.out (by kernel_rfl)) (by decide) (by decide) (fun K hK => ?_) (fun K hK => ?_)
                · skip
                  refine box_step ?hg (N := 9) ?hd (cs := #[.int .i64 0, .int .i64 0, .int .i64 0, .int .i64 0]) (t := 64) ?hr ?_; (case hd => rfl); (case hg => rfl); (case hr => first | (go_simp; done) | (go_simp; rfl))
                  intro gb142 hg w27 hbox hb
                  have n0_ := Aside0.mk (below_step (by repeat (first | (with_reducible first | exact HB.out | apply below_alloc | apply pw_below_drewN | apply below_drew1) | exact HB.out)) hb)
                  have n1_ := Aside0.mk (hbox)
                  have n2_ := Aside0.mk ((by rw [hg]; exact (below_size (by repeat (first | (with_reducible first | exact HB.out | apply below_alloc | apply pw_below_drewN | apply below_drew1) | exact HB.out))) : w.heap.size ≤ gb142))
                  have n3_ := Aside0.mk ((by rw [hg]; exact (below_size (by repeat (first | (with_reducible first | exact HB.out | apply below_alloc | apply pw_below_drewN | apply below_drew1) | exact HB.out))) : w.heap.size ≤ gb142))
                  clear HB
                  have HB := n0_
                  have BK142 := n1_
                  have GW142 := n2_
                  have GE142 := n3_
                  clear n0_ n1_ n2_ n3_
                  clear hb hbox hg
                  refine hK.out _ _ ⟨((HB.out.cell (World.block_lt_of_cell? w _ hw140_0)).trans hw140_0), ((HB.out.cell (World.block_lt_of_cell? w _ hw140_1)).trans hw140_1), ((HB.out.cell (World.block_lt_of_cell? w _ hw140_2)).trans hw140_2), ((HB.out.cell (World.block_lt_of_cell? w _ hw140_3)).trans hw140_3), ((HB.out.cell (World.block_lt_of_cell? w _ hw141_0)).trans hw141_0), ((HB.out.cell (World.block_lt_of_cell? w _ hw141_1)).trans hw141_1), ((HB.out.cell (World.block_lt_of_cell? w _ hw141_2)).trans hw141_2), ((HB.out.cell (World.block_lt_of_cell? w _ hw141_3)).trans hw141_3)⟩ (fun hHeld => ?_)
                  clear hK K
                  refine norm_ (a' := ?_) ?_ ?_
                  rotate_left
                  · show Act.put _ (some 9) _ = _
                    simp only [Act.put, List.setIfInBounds_toArray, List.set_cons_zero, List.set_cons_succ, i64_w, i32_w]
                    rfl
                  refine one_ (i := 9) (N := some 10) #[true, true, true, true, true, true, true, true, true, true, false, false] rfl rfl (one_of HT_.out (by kernel_rfl)) (by decide) (fun K hK => ?_)
                  refine box_step ?hg (N := 10) ?hd (cs := #[.int .i64 0, .int .i64 0, .int .i64 0, .int .i64 0]) (t := 64) ?hr ?_; (case hd => rfl); (case hg => rfl); (case hr => first | (go_simp; done) | (go_simp; rfl))
                  intro gb143 hg w28 hbox hb
                  have n0_ := Aside0.mk (blk_below (g := gb142) (o := .cells #[.int .i64 0, .int .i64 0, .int .i64 0, .int .i64 0] 64 (0, 0)) (by (with_reducible repeat (first | refine blk_drewN ?_ _ | refine blk_drew ?_ | refine blk_alloc ?_ _)); exact BK142.out) hb)
                  have n1_ := Aside0.mk (below_step (by repeat (first | (with_reducible first | exact HB.out | apply below_alloc | apply pw_below_drewN | apply below_drew1 | refine below_set ?_ GE142.out) | exact HB.out)) hb)
                  have n2_ := Aside0.mk (hbox)
                  have n3_ := Aside0.mk ((by rw [hg]; exact (below_size (by repeat (first | (with_reducible first | exact HB.out | apply below_alloc | apply pw_below_drewN | apply below_drew1 | refine below_set ?_ GE142.out) | exact HB.out))) : w.heap.size ≤ gb143))
                  have n4_ := Aside0.mk ((by rw [hg]; exact (below_size (by repeat (first | (with_reducible first | exact HB.out | apply below_alloc | apply pw_below_drewN | apply below_drew1 | refine below_set ?_ GE142.out) | exact HB.out))) : w.heap.size ≤ gb143))
                  have n5_ := Aside0.mk ((by rw [hg]; exact Nat.ne_of_lt (blk_lt (g := gb142) (o := .cells #[.int .i64 0, .int .i64 0, .int .i64 0, .int .i64 0] 64 (0, 0)) (by (with_reducible repeat (first | refine blk_drewN ?_ _ | refine blk_drew ?_ | refine blk_alloc ?_ _)); exact BK142.out)) : gb142 ≠ gb143))
                  have n6_ := Aside0.mk ((by rw [hg]; exact Nat.ne_of_gt (blk_lt (g := gb142) (o := .cells #[.int .i64 0, .int .i64 0, .int .i64 0, .int .i64 0] 64 (0, 0)) (by (with_reducible repeat (first | refine blk_drewN ?_ _ | refine blk_drew ?_ | refine blk_alloc ?_ _)); exact BK142.out)) : gb143 ≠ gb142))
                  clear BK142
                  clear HB
                  have BK142 := n0_
                  have HB := n1_
                  have BK143 := n2_
                  have GW143 := n3_
                  have GE143 := n4_
                  have NB142_143 := n5_
                  have NB143_142 := n6_
                  clear n0_ n1_ n2_ n3_ n4_ n5_ n6_
                  clear hb hbox hg
                  refine hK.out _ _ ⟨((HB.out.cell (World.block_lt_of_cell? w _ hw140_0)).trans hw140_0), ((HB.out.cell (World.block_lt_of_cell? w _ hw140_1)).trans hw140_1), ((HB.out.cell (World.block_lt_of_cell? w _ hw140_2)).trans hw140_2), ((HB.out.cell (World.block_lt_of_cell? w _ hw140_3)).trans hw140_3), ((HB.out.cell (World.block_lt_of_cell? w _ hw141_0)).trans hw141_0), ((HB.out.cell (World.block_lt_of_cell? w _ hw141_1)).trans hw141_1), ((HB.out.cell (World.block_lt_of_cell? w _ hw141_2)).trans hw141_2), ((HB.out.cell (World.block_lt_of_cell? w _ hw141_3)).trans hw141_3)⟩ (fun hHeld => ?_)
                  clear hK K
                  refine norm_ (a' := ?_) ?_ ?_
                  rotate_left
                  · show Act.put _ (some 10) _ = _
                    simp only [Act.put, List.setIfInBounds_toArray, List.set_cons_zero, List.set_cons_succ, i64_w, i32_w]
                    rfl
                  exact norm_ (by simp only [putAll, Act.put, List.setIfInBounds_toArray, List.set_cons_zero, List.set_cons_succ]) (hCont (gb142, gb143) _ ⟨hHeld, (by (with_reducible repeat (first | refine blk_drewN ?_ _ | refine blk_drew ?_ | refine blk_alloc ?_ _)); exact BK142.out), (by (with_reducible repeat (first | refine blk_drewN ?_ _ | refine blk_drew ?_ | refine blk_alloc ?_ _)); exact BK143.out), GW142.out, GE142.out, NB143_142.out, NB142_143.out, GW143.out, GE143.out, (by repeat (first | (with_reducible first | exact HB.out | apply below_alloc | apply pw_below_drewN | apply below_drew1 | refine below_set ?_ GE142.out | refine below_set ?_ GE143.out) | exact HB.out))⟩)
                · skip
                  refine box_step ?hg (N := 10) ?hd (cs := #[.int .i64 0, .int .i64 0, .int .i64 0, .int .i64 0]) (t := 64) ?hr ?_; (case hd => rfl); (case hg => rfl); (case hr => first | (go_simp; done) | (go_simp; rfl))
                  intro gb143 hg w27 hbox hb
                  have n0_ := Aside0.mk (below_step (by repeat (first | (with_reducible first | exact HB.out | apply below_alloc | apply pw_below_drewN | apply below_drew1) | exact HB.out)) hb)
                  have n1_ := Aside0.mk (hbox)
                  have n2_ := Aside0.mk ((by rw [hg]; exact (below_size (by repeat (first | (with_reducible first | exact HB.out | apply below_alloc | apply pw_below_drewN | apply below_drew1) | exact HB.out))) : w.heap.size ≤ gb143))
                  have n3_ := Aside0.mk ((by rw [hg]; exact (below_size (by repeat (first | (with_reducible first | exact HB.out | apply below_alloc | apply pw_below_drewN | apply below_drew1) | exact HB.out))) : w.heap.size ≤ gb143))
                  clear HB
                  have HB := n0_
                  have BK143 := n1_
                  have GW143 := n2_
                  have GE143 := n3_
                  clear n0_ n1_ n2_ n3_
                  clear hb hbox hg
                  refine hK.out _ _ ⟨((HB.out.cell (World.block_lt_of_cell? w _ hw140_0)).trans hw140_0), ((HB.out.cell (World.block_lt_of_cell? w _ hw140_1)).trans hw140_1), ((HB.out.cell (World.block_lt_of_cell? w _ hw140_2)).trans hw140_2), ((HB.out.cell (World.block_lt_of_cell? w _ hw140_3)).trans hw140_3), ((HB.out.cell (World.block_lt_of_cell? w _ hw141_0)).trans hw141_0), ((HB.out.cell (World.block_lt_of_cell? w _ hw141_1)).trans hw141_1), ((HB.out.cell (World.block_lt_of_cell? w _ hw141_2)).trans hw141_2), ((HB.out.cell (World.block_lt_of_cell? w _ hw141_3)).trans hw141_3)⟩ (fun hHeld => ?_)
                  clear hK K
                  refine norm_ (a' := ?_) ?_ ?_
                  rotate_left
                  · show Act.put _ (some 10) _ = _
                    simp only [Act.put, List.setIfInBounds_toArray, List.set_cons_zero, List.set_cons_succ, i64_w, i32_w]
                    rfl
                  refine one_ (i := 8) (N := some 9) #[true, true, true, true, true, true, true, true, true, true, false, false] rfl rfl (one_of HT_.out (by kernel_rfl)) (by decide) (fun K hK => ?_)
                  refine box_step ?hg (N := 9) ?hd (cs := #[.int .i64 0, .int .i64 0, .int .i64 0, .int .i64 0]) (t := 64) ?hr ?_; (case hd => rfl); (case hg => rfl); (case hr => first | (go_simp; done) | (go_simp; rfl))
                  intro gb142 hg w28 hbox hb
                  have n0_ := Aside0.mk (blk_below (g := gb143) (o := .cells #[.int .i64 0, .int .i64 0, .int .i64 0, .int .i64 0] 64 (0, 0)) (by (with_reducible repeat (first | refine blk_drewN ?_ _ | refine blk_drew ?_ | refine blk_alloc ?_ _)); exact BK143.out) hb)
                  have n1_ := Aside0.mk (below_step (by repeat (first | (with_reducible first | exact HB.out | apply below_alloc | apply pw_below_drewN | apply below_drew1 | refine below_set ?_ GE143.out) | exact HB.out)) hb)
                  have n2_ := Aside0.mk (hbox)
                  have n3_ := Aside0.mk ((by rw [hg]; exact (below_size (by repeat (first | (with_reducible first | exact HB.out | apply below_alloc | apply pw_below_drewN | apply below_drew1 | refine below_set ?_ GE143.out) | exact HB.out))) : w.heap.size ≤ gb142))
                  have n4_ := Aside0.mk ((by rw [hg]; exact (below_size (by repeat (first | (with_reducible first | exact HB.out | apply below_alloc | apply pw_below_drewN | apply below_drew1 | refine below_set ?_ GE143.out) | exact HB.out))) : w.heap.size ≤ gb142))
                  have n5_ := Aside0.mk ((by rw [hg]; exact Nat.ne_of_lt (blk_lt (g := gb143) (o := .cells #[.int .i64 0, .int .i64 0, .int .i64 0, .int .i64 0] 64 (0, 0)) (by (with_reducible repeat (first | refine blk_drewN ?_ _ | refine blk_drew ?_ | refine blk_alloc ?_ _)); exact BK143.out)) : gb143 ≠ gb142))
                  have n6_ := Aside0.mk ((by rw [hg]; exact Nat.ne_of_gt (blk_lt (g := gb143) (o := .cells #[.int .i64 0, .int .i64 0, .int .i64 0, .int .i64 0] 64 (0, 0)) (by (with_reducible repeat (first | refine blk_drewN ?_ _ | refine blk_drew ?_ | refine blk_alloc ?_ _)); exact BK143.out)) : gb142 ≠ gb143))
                  clear BK143
                  clear HB
                  have BK143 := n0_
                  have HB := n1_
                  have BK142 := n2_
                  have GW142 := n3_
                  have GE142 := n4_
                  have NB143_142 := n5_
                  have NB142_143 := n6_
                  clear n0_ n1_ n2_ n3_ n4_ n5_ n6_
                  clear hb hbox hg
                  refine hK.out _ _ ⟨((HB.out.cell (World.block_lt_of_cell? w _ hw140_0)).trans hw140_0), ((HB.out.cell (World.block_lt_of_cell? w _ hw140_1)).trans hw140_1), ((HB.out.cell (World.block_lt_of_cell? w _ hw140_2)).trans hw140_2), ((HB.out.cell (World.block_lt_of_cell? w _ hw140_3)).trans hw140_3), ((HB.out.cell (World.block_lt_of_cell? w _ hw141_0)).trans hw141_0), ((HB.out.cell (World.block_lt_of_cell? w _ hw141_1)).trans hw141_1), ((HB.out.cell (World.block_lt_of_cell? w _ hw141_2)).trans hw141_2), ((HB.out.cell (World.block_lt_of_cell? w _ hw141_3)).trans hw141_3)⟩ (fun hHeld => ?_)
                  clear hK K
                  refine norm_ (a' := ?_) ?_ ?_
                  rotate_left
                  · show Act.put _ (some 9) _ = _
                    simp only [Act.put, List.setIfInBounds_toArray, List.set_cons_zero, List.set_cons_succ, i64_w, i32_w]
                    rfl
                  exact norm_ (by simp only [putAll, Act.put, List.setIfInBounds_toArray, List.set_cons_zero, List.set_cons_succ]) (hCont (gb142, gb143) _ ⟨hHeld, (by (with_reducible repeat (first | refine blk_drewN ?_ _ | refine blk_drew ?_ | refine blk_alloc ?_ _)); exact BK142.out), (by (with_reducible repeat (first | refine blk_drewN ?_ _ | refine blk_drew ?_ | refine blk_alloc ?_ _)); exact BK143.out), GW142.out, GE142.out, NB143_142.out, NB142_143.out, GW143.out, GE143.out, (by repeat (first | (with_reducible first | exact HB.out | apply below_alloc | apply pw_below_drewN | apply below_drew1 | refine below_set ?_ GE143.out | refine below_set ?_ GE142.out) | exact HB.out))⟩)
              rintro ⟨gb142, gb143⟩ w29 ⟨hS_, h0_, h1_, h2_, h3_, h4_, h5_, h6_, h7_, h8_⟩
              have n0_ : Aside0 (w29.heap[gb142]? = some (.cells #[.int .i64 0, .int .i64 0, .int .i64 0, .int .i64 0] 64 (0, 0))) := ⟨h0_⟩
              have n1_ : Aside0 (w29.heap[gb143]? = some (.cells #[.int .i64 0, .int .i64 0, .int .i64 0, .int .i64 0] 64 (0, 0))) := ⟨h1_⟩
              have n2_ : Aside0 (w.heap.size ≤ gb142) := ⟨h2_⟩
              have n3_ : Aside0 (w.heap.size ≤ gb142) := ⟨h3_⟩
              have n4_ : Aside0 (gb143 ≠ gb142) := ⟨h4_⟩
              have n5_ : Aside0 (gb142 ≠ gb143) := ⟨h5_⟩
              have n6_ : Aside0 (w.heap.size ≤ gb143) := ⟨h6_⟩
              have n7_ : Aside0 (w.heap.size ≤ gb143) := ⟨h7_⟩
              have n8_ : Aside0 (Below w.heap.size w w29) := ⟨h8_⟩
              clear HB
              clear h0_ h1_ h2_ h3_ h4_ h5_ h6_ h7_ h8_
              have BK142 := n0_
              have BK143 := n1_
              have GW142 := n2_
              have GE142 := n3_
              have NB143_142 := n4_
              have NB142_143 := n5_
              have GW143 := n6_
              have GE143 := n7_
              have HB := n8_
              clear n0_ n1_ n2_ n3_ n4_ n5_ n6_ n7_ n8_
              have hHeld : w29.cell? (ad140.add ((a2).toNat * 4)) = some (.int .i64 ((rd_T64 l0 a2).f0)) ∧ w29.cell? ⟨(ad140.add ((a2).toNat * 4)).block, (ad140.add ((a2).toNat * 4)).off + 1, none⟩ = some (.int .i64 ((rd_T64 l0 a2).f1)) ∧ w29.cell? ⟨(ad140.add ((a2).toNat * 4)).block, (ad140.add ((a2).toNat * 4)).off + 2, none⟩ = some (.int .i64 ((rd_T64 l0 a2).f2)) ∧ w29.cell? ⟨(ad140.add ((a2).toNat * 4)).block, (ad140.add ((a2).toNat * 4)).off + 3, none⟩ = some (.int .i64 ((rd_T64 l0 a2).f3)) ∧ w29.cell? (ad140.add ((a3).toNat * 4)) = some (.int .i64 ((rd_T64 l0 a3).f0)) ∧ w29.cell? ⟨(ad140.add ((a3).toNat * 4)).block, (ad140.add ((a3).toNat * 4)).off + 1, none⟩ = some (.int .i64 ((rd_T64 l0 a3).f1)) ∧ w29.cell? ⟨(ad140.add ((a3).toNat * 4)).block, (ad140.add ((a3).toNat * 4)).off + 2, none⟩ = some (.int .i64 ((rd_T64 l0 a3).f2)) ∧ w29.cell? ⟨(ad140.add ((a3).toNat * 4)).block, (ad140.add ((a3).toNat * 4)).off + 3, none⟩ = some (.int .i64 ((rd_T64 l0 a3).f3)) := hS_
              refine norm_ (a' := ?_) ?_ ?_
              rotate_left
              · simp only [putAll, Act.put, List.setIfInBounds_toArray, List.set_cons_zero, List.set_cons_succ]
                rfl
              refine one_ (i := 10) (N := none) #[true, true, true, true, true, true, true, true, true, true, true, false] rfl rfl (one_of HT_.out (by kernel_rfl)) (by decide) (fun K hK => ?_)
              have hs30 : w29.cell? ⟨gb142, 0, none⟩ = some (.int .i64 0) := (blk_cell BK142.out 0).trans rfl
              have hfs30 := blk_frozen BK142.out 0
              have hns30_1 := NB143_142.out
              have hms30_1 := NB142_143.out
              have hs31 : w29.cell? ⟨gb142, 1, none⟩ = some (.int .i64 0) := (blk_cell BK142.out 1).trans rfl
              have hfs31 := blk_frozen BK142.out 1
              have hns31_1 := NB143_142.out
              have hms31_1 := NB142_143.out
              have hs32 : w29.cell? ⟨gb142, 2, none⟩ = some (.int .i64 0) := (blk_cell BK142.out 2).trans rfl
              have hfs32 := blk_frozen BK142.out 2
              have hns32_1 := NB143_142.out
              have hms32_1 := NB142_143.out
              have hs33 : w29.cell? ⟨gb142, 3, none⟩ = some (.int .i64 0) := (blk_cell BK142.out 3).trans rfl
              have hfs33 := blk_frozen BK142.out 3
              have hns33_1 := NB143_142.out
              have hms33_1 := NB142_143.out
              refine skip_ (w1 := ?_) (by rfl) rfl ?_ ?_
              rotate_left
              · go_simp
                rfl
              refine hK.out _ _ ⟨((cell_far (p := ⟨gb142, _, none⟩) (by have t_ := Nat.ne_of_lt (Nat.lt_of_lt_of_le (World.block_lt_of_cell? _ _ hw140_0) GW142.out); first | exact t_ | (rw [add_block] at t_; exact t_) | (rw [add_block] at t_ ⊢; exact t_) | (dsimp only at t_ ⊢; exact t_) | (simp only [add_block] at t_ ⊢; exact t_)) _).trans (((cell_far (p := ⟨gb142, _, none⟩) (by have t_ := Nat.ne_of_lt (Nat.lt_of_lt_of_le (World.block_lt_of_cell? _ _ hw140_0) GW142.out); first | exact t_ | (rw [add_block] at t_; exact t_) | (rw [add_block] at t_ ⊢; exact t_) | (dsimp only at t_ ⊢; exact t_) | (simp only [add_block] at t_ ⊢; exact t_)) _).trans (((cell_far (p := ⟨gb142, _, none⟩) (by have t_ := Nat.ne_of_lt (Nat.lt_of_lt_of_le (World.block_lt_of_cell? _ _ hw140_0) GW142.out); first | exact t_ | (rw [add_block] at t_; exact t_) | (rw [add_block] at t_ ⊢; exact t_) | (dsimp only at t_ ⊢; exact t_) | (simp only [add_block] at t_ ⊢; exact t_)) _).trans (((cell_far (p := ⟨gb142, _, none⟩) (by have t_ := Nat.ne_of_lt (Nat.lt_of_lt_of_le (World.block_lt_of_cell? _ _ hw140_0) GW142.out); first | exact t_ | (rw [add_block] at t_; exact t_) | (rw [add_block] at t_ ⊢; exact t_) | (dsimp only at t_ ⊢; exact t_) | (simp only [add_block] at t_ ⊢; exact t_)) _).trans (hHeld.1)))))))), ((cell_far (p := ⟨gb142, _, none⟩) (by have t_ := Nat.ne_of_lt (Nat.lt_of_lt_of_le (World.block_lt_of_cell? _ _ hw140_1) GW142.out); first | exact t_ | (rw [add_block] at t_; exact t_) | (rw [add_block] at t_ ⊢; exact t_) | (dsimp only at t_ ⊢; exact t_) | (simp only [add_block] at t_ ⊢; exact t_)) _).trans (((cell_far (p := ⟨gb142, _, none⟩) (by have t_ := Nat.ne_of_lt (Nat.lt_of_lt_of_le (World.block_lt_of_cell? _ _ hw140_1) GW142.out); first | exact t_ | (rw [add_block] at t_; exact t_) | (rw [add_block] at t_ ⊢; exact t_) | (dsimp only at t_ ⊢; exact t_) | (simp only [add_block] at t_ ⊢; exact t_)) _).trans (((cell_far (p := ⟨gb142, _, none⟩) (by have t_ := Nat.ne_of_lt (Nat.lt_of_lt_of_le (World.block_lt_of_cell? _ _ hw140_1) GW142.out); first | exact t_ | (rw [add_block] at t_; exact t_) | (rw [add_block] at t_ ⊢; exact t_) | (dsimp only at t_ ⊢; exact t_) | (simp only [add_block] at t_ ⊢; exact t_)) _).trans (((cell_far (p := ⟨gb142, _, none⟩) (by have t_ := Nat.ne_of_lt (Nat.lt_of_lt_of_le (World.block_lt_of_cell? _ _ hw140_1) GW142.out); first | exact t_ | (rw [add_block] at t_; exact t_) | (rw [add_block] at t_ ⊢; exact t_) | (dsimp only at t_ ⊢; exact t_) | (simp only [add_block] at t_ ⊢; exact t_)) _).trans (hHeld.2.1)))))))), ((cell_far (p := ⟨gb142, _, none⟩) (by have t_ := Nat.ne_of_lt (Nat.lt_of_lt_of_le (World.block_lt_of_cell? _ _ hw140_2) GW142.out); first | exact t_ | (rw [add_block] at t_; exact t_) | (rw [add_block] at t_ ⊢; exact t_) | (dsimp only at t_ ⊢; exact t_) | (simp only [add_block] at t_ ⊢; exact t_)) _).trans (((cell_far (p := ⟨gb142, _, none⟩) (by have t_ := Nat.ne_of_lt (Nat.lt_of_lt_of_le (World.block_lt_of_cell? _ _ hw140_2) GW142.out); first | exact t_ | (rw [add_block] at t_; exact t_) | (rw [add_block] at t_ ⊢; exact t_) | (dsimp only at t_ ⊢; exact t_) | (simp only [add_block] at t_ ⊢; exact t_)) _).trans (((cell_far (p := ⟨gb142, _, none⟩) (by have t_ := Nat.ne_of_lt (Nat.lt_of_lt_of_le (World.block_lt_of_cell? _ _ hw140_2) GW142.out); first | exact t_ | (rw [add_block] at t_; exact t_) | (rw [add_block] at t_ ⊢; exact t_) | (dsimp only at t_ ⊢; exact t_) | (simp only [add_block] at t_ ⊢; exact t_)) _).trans (((cell_far (p := ⟨gb142, _, none⟩) (by have t_ := Nat.ne_of_lt (Nat.lt_of_lt_of_le (World.block_lt_of_cell? _ _ hw140_2) GW142.out); first | exact t_ | (rw [add_block] at t_; exact t_) | (rw [add_block] at t_ ⊢; exact t_) | (dsimp only at t_ ⊢; exact t_) | (simp only [add_block] at t_ ⊢; exact t_)) _).trans (hHeld.2.2.1)))))))), ((cell_far (p := ⟨gb142, _, none⟩) (by have t_ := Nat.ne_of_lt (Nat.lt_of_lt_of_le (World.block_lt_of_cell? _ _ hw140_3) GW142.out); first | exact t_ | (rw [add_block] at t_; exact t_) | (rw [add_block] at t_ ⊢; exact t_) | (dsimp only at t_ ⊢; exact t_) | (simp only [add_block] at t_ ⊢; exact t_)) _).trans (((cell_far (p := ⟨gb142, _, none⟩) (by have t_ := Nat.ne_of_lt (Nat.lt_of_lt_of_le (World.block_lt_of_cell? _ _ hw140_3) GW142.out); first | exact t_ | (rw [add_block] at t_; exact t_) | (rw [add_block] at t_ ⊢; exact t_) | (dsimp only at t_ ⊢; exact t_) | (simp only [add_block] at t_ ⊢; exact t_)) _).trans (((cell_far (p := ⟨gb142, _, none⟩) (by have t_ := Nat.ne_of_lt (Nat.lt_of_lt_of_le (World.block_lt_of_cell? _ _ hw140_3) GW142.out); first | exact t_ | (rw [add_block] at t_; exact t_) | (rw [add_block] at t_ ⊢; exact t_) | (dsimp only at t_ ⊢; exact t_) | (simp only [add_block] at t_ ⊢; exact t_)) _).trans (((cell_far (p := ⟨gb142, _, none⟩) (by have t_ := Nat.ne_of_lt (Nat.lt_of_lt_of_le (World.block_lt_of_cell? _ _ hw140_3) GW142.out); first | exact t_ | (rw [add_block] at t_; exact t_) | (rw [add_block] at t_ ⊢; exact t_) | (dsimp only at t_ ⊢; exact t_) | (simp only [add_block] at t_ ⊢; exact t_)) _).trans (hHeld.2.2.2.1)))))))), ((cell_far (p := ⟨gb142, _, none⟩) (by have t_ := Nat.ne_of_lt (Nat.lt_of_lt_of_le (World.block_lt_of_cell? _ _ hw141_0) GW142.out); first | exact t_ | (rw [add_block] at t_; exact t_) | (rw [add_block] at t_ ⊢; exact t_) | (dsimp only at t_ ⊢; exact t_) | (simp only [add_block] at t_ ⊢; exact t_)) _).trans (((cell_far (p := ⟨gb142, _, none⟩) (by have t_ := Nat.ne_of_lt (Nat.lt_of_lt_of_le (World.block_lt_of_cell? _ _ hw141_0) GW142.out); first | exact t_ | (rw [add_block] at t_; exact t_) | (rw [add_block] at t_ ⊢; exact t_) | (dsimp only at t_ ⊢; exact t_) | (simp only [add_block] at t_ ⊢; exact t_)) _).trans (((cell_far (p := ⟨gb142, _, none⟩) (by have t_ := Nat.ne_of_lt (Nat.lt_of_lt_of_le (World.block_lt_of_cell? _ _ hw141_0) GW142.out); first | exact t_ | (rw [add_block] at t_; exact t_) | (rw [add_block] at t_ ⊢; exact t_) | (dsimp only at t_ ⊢; exact t_) | (simp only [add_block] at t_ ⊢; exact t_)) _).trans (((cell_far (p := ⟨gb142, _, none⟩) (by have t_ := Nat.ne_of_lt (Nat.lt_of_lt_of_le (World.block_lt_of_cell? _ _ hw141_0) GW142.out); first | exact t_ | (rw [add_block] at t_; exact t_) | (rw [add_block] at t_ ⊢; exact t_) | (dsimp only at t_ ⊢; exact t_) | (simp only [add_block] at t_ ⊢; exact t_)) _).trans (hHeld.2.2.2.2.1)))))))), ((cell_far (p := ⟨gb142, _, none⟩) (by have t_ := Nat.ne_of_lt (Nat.lt_of_lt_of_le (World.block_lt_of_cell? _ _ hw141_1) GW142.out); first | exact t_ | (rw [add_block] at t_; exact t_) | (rw [add_block] at t_ ⊢; exact t_) | (dsimp only at t_ ⊢; exact t_) | (simp only [add_block] at t_ ⊢; exact t_)) _).trans (((cell_far (p := ⟨gb142, _, none⟩) (by have t_ := Nat.ne_of_lt (Nat.lt_of_lt_of_le (World.block_lt_of_cell? _ _ hw141_1) GW142.out); first | exact t_ | (rw [add_block] at t_; exact t_) | (rw [add_block] at t_ ⊢; exact t_) | (dsimp only at t_ ⊢; exact t_) | (simp only [add_block] at t_ ⊢; exact t_)) _).trans (((cell_far (p := ⟨gb142, _, none⟩) (by have t_ := Nat.ne_of_lt (Nat.lt_of_lt_of_le (World.block_lt_of_cell? _ _ hw141_1) GW142.out); first | exact t_ | (rw [add_block] at t_; exact t_) | (rw [add_block] at t_ ⊢; exact t_) | (dsimp only at t_ ⊢; exact t_) | (simp only [add_block] at t_ ⊢; exact t_)) _).trans (((cell_far (p := ⟨gb142, _, none⟩) (by have t_ := Nat.ne_of_lt (Nat.lt_of_lt_of_le (World.block_lt_of_cell? _ _ hw141_1) GW142.out); first | exact t_ | (rw [add_block] at t_; exact t_) | (rw [add_block] at t_ ⊢; exact t_) | (dsimp only at t_ ⊢; exact t_) | (simp only [add_block] at t_ ⊢; exact t_)) _).trans (hHeld.2.2.2.2.2.1)))))))), ((cell_far (p := ⟨gb142, _, none⟩) (by have t_ := Nat.ne_of_lt (Nat.lt_of_lt_of_le (World.block_lt_of_cell? _ _ hw141_2) GW142.out); first | exact t_ | (rw [add_block] at t_; exact t_) | (rw [add_block] at t_ ⊢; exact t_) | (dsimp only at t_ ⊢; exact t_) | (simp only [add_block] at t_ ⊢; exact t_)) _).trans (((cell_far (p := ⟨gb142, _, none⟩) (by have t_ := Nat.ne_of_lt (Nat.lt_of_lt_of_le (World.block_lt_of_cell? _ _ hw141_2) GW142.out); first | exact t_ | (rw [add_block] at t_; exact t_) | (rw [add_block] at t_ ⊢; exact t_) | (dsimp only at t_ ⊢; exact t_) | (simp only [add_block] at t_ ⊢; exact t_)) _).trans (((cell_far (p := ⟨gb142, _, none⟩) (by have t_ := Nat.ne_of_lt (Nat.lt_of_lt_of_le (World.block_lt_of_cell? _ _ hw141_2) GW142.out); first | exact t_ | (rw [add_block] at t_; exact t_) | (rw [add_block] at t_ ⊢; exact t_) | (dsimp only at t_ ⊢; exact t_) | (simp only [add_block] at t_ ⊢; exact t_)) _).trans (((cell_far (p := ⟨gb142, _, none⟩) (by have t_ := Nat.ne_of_lt (Nat.lt_of_lt_of_le (World.block_lt_of_cell? _ _ hw141_2) GW142.out); first | exact t_ | (rw [add_block] at t_; exact t_) | (rw [add_block] at t_ ⊢; exact t_) | (dsimp only at t_ ⊢; exact t_) | (simp only [add_block] at t_ ⊢; exact t_)) _).trans (hHeld.2.2.2.2.2.2.1)))))))), ((cell_far (p := ⟨gb142, _, none⟩) (by have t_ := Nat.ne_of_lt (Nat.lt_of_lt_of_le (World.block_lt_of_cell? _ _ hw141_3) GW142.out); first | exact t_ | (rw [add_block] at t_; exact t_) | (rw [add_block] at t_ ⊢; exact t_) | (dsimp only at t_ ⊢; exact t_) | (simp only [add_block] at t_ ⊢; exact t_)) _).trans (((cell_far (p := ⟨gb142, _, none⟩) (by have t_ := Nat.ne_of_lt (Nat.lt_of_lt_of_le (World.block_lt_of_cell? _ _ hw141_3) GW142.out); first | exact t_ | (rw [add_block] at t_; exact t_) | (rw [add_block] at t_ ⊢; exact t_) | (dsimp only at t_ ⊢; exact t_) | (simp only [add_block] at t_ ⊢; exact t_)) _).trans (((cell_far (p := ⟨gb142, _, none⟩) (by have t_ := Nat.ne_of_lt (Nat.lt_of_lt_of_le (World.block_lt_of_cell? _ _ hw141_3) GW142.out); first | exact t_ | (rw [add_block] at t_; exact t_) | (rw [add_block] at t_ ⊢; exact t_) | (dsimp only at t_ ⊢; exact t_) | (simp only [add_block] at t_ ⊢; exact t_)) _).trans (((cell_far (p := ⟨gb142, _, none⟩) (by have t_ := Nat.ne_of_lt (Nat.lt_of_lt_of_le (World.block_lt_of_cell? _ _ hw141_3) GW142.out); first | exact t_ | (rw [add_block] at t_; exact t_) | (rw [add_block] at t_ ⊢; exact t_) | (dsimp only at t_ ⊢; exact t_) | (simp only [add_block] at t_ ⊢; exact t_)) _).trans (hHeld.2.2.2.2.2.2.2))))))))⟩ (fun hHeld => ?_)
              clear hK K
              refine one_ (i := 11) (N := none) #[true, true, true, true, true, true, true, true, true, true, true, true] rfl rfl (one_of HT_.out (by kernel_rfl)) (by decide) (fun K hK => ?_)
              have hs34 : w29.cell? ⟨gb143, 0, none⟩ = some (.int .i64 0) := (blk_cell BK143.out 0).trans rfl
              have hfs34 := blk_frozen BK143.out 0
              have hns34_0 := NB142_143.out
              have hms34_0 := NB143_142.out
              have hs35 : w29.cell? ⟨gb143, 1, none⟩ = some (.int .i64 0) := (blk_cell BK143.out 1).trans rfl
              have hfs35 := blk_frozen BK143.out 1
              have hns35_0 := NB142_143.out
              have hms35_0 := NB143_142.out
              have hs36 : w29.cell? ⟨gb143, 2, none⟩ = some (.int .i64 0) := (blk_cell BK143.out 2).trans rfl
              have hfs36 := blk_frozen BK143.out 2
              have hns36_0 := NB142_143.out
              have hms36_0 := NB143_142.out
              have hs37 : w29.cell? ⟨gb143, 3, none⟩ = some (.int .i64 0) := (blk_cell BK143.out 3).trans rfl
              have hfs37 := blk_frozen BK143.out 3
              have hns37_0 := NB142_143.out
              have hms37_0 := NB143_142.out
              refine skip_ (w1 := ?_) (by rfl) rfl ?_ ?_
              rotate_left
              · go_simp
                rfl
              refine hK.out _ _ ⟨((cell_far (p := ⟨gb143, _, none⟩) (by have t_ := Nat.ne_of_lt (Nat.lt_of_lt_of_le (World.block_lt_of_cell? _ _ hw140_0) GW143.out); first | exact t_ | (rw [add_block] at t_; exact t_) | (rw [add_block] at t_ ⊢; exact t_) | (dsimp only at t_ ⊢; exact t_) | (simp only [add_block] at t_ ⊢; exact t_)) _).trans (((cell_far (p := ⟨gb143, _, none⟩) (by have t_ := Nat.ne_of_lt (Nat.lt_of_lt_of_le (World.block_lt_of_cell? _ _ hw140_0) GW143.out); first | exact t_ | (rw [add_block] at t_; exact t_) | (rw [add_block] at t_ ⊢; exact t_) | (dsimp only at t_ ⊢; exact t_) | (simp only [add_block] at t_ ⊢; exact t_)) _).trans (((cell_far (p := ⟨gb143, _, none⟩) (by have t_ := Nat.ne_of_lt (Nat.lt_of_lt_of_le (World.block_lt_of_cell? _ _ hw140_0) GW143.out); first | exact t_ | (rw [add_block] at t_; exact t_) | (rw [add_block] at t_ ⊢; exact t_) | (dsimp only at t_ ⊢; exact t_) | (simp only [add_block] at t_ ⊢; exact t_)) _).trans (((cell_far (p := ⟨gb143, _, none⟩) (by have t_ := Nat.ne_of_lt (Nat.lt_of_lt_of_le (World.block_lt_of_cell? _ _ hw140_0) GW143.out); first | exact t_ | (rw [add_block] at t_; exact t_) | (rw [add_block] at t_ ⊢; exact t_) | (dsimp only at t_ ⊢; exact t_) | (simp only [add_block] at t_ ⊢; exact t_)) _).trans (hHeld.1)))))))), ((cell_far (p := ⟨gb143, _, none⟩) (by have t_ := Nat.ne_of_lt (Nat.lt_of_lt_of_le (World.block_lt_of_cell? _ _ hw140_1) GW143.out); first | exact t_ | (rw [add_block] at t_; exact t_) | (rw [add_block] at t_ ⊢; exact t_) | (dsimp only at t_ ⊢; exact t_) | (simp only [add_block] at t_ ⊢; exact t_)) _).trans (((cell_far (p := ⟨gb143, _, none⟩) (by have t_ := Nat.ne_of_lt (Nat.lt_of_lt_of_le (World.block_lt_of_cell? _ _ hw140_1) GW143.out); first | exact t_ | (rw [add_block] at t_; exact t_) | (rw [add_block] at t_ ⊢; exact t_) | (dsimp only at t_ ⊢; exact t_) | (simp only [add_block] at t_ ⊢; exact t_)) _).trans (((cell_far (p := ⟨gb143, _, none⟩) (by have t_ := Nat.ne_of_lt (Nat.lt_of_lt_of_le (World.block_lt_of_cell? _ _ hw140_1) GW143.out); first | exact t_ | (rw [add_block] at t_; exact t_) | (rw [add_block] at t_ ⊢; exact t_) | (dsimp only at t_ ⊢; exact t_) | (simp only [add_block] at t_ ⊢; exact t_)) _).trans (((cell_far (p := ⟨gb143, _, none⟩) (by have t_ := Nat.ne_of_lt (Nat.lt_of_lt_of_le (World.block_lt_of_cell? _ _ hw140_1) GW143.out); first | exact t_ | (rw [add_block] at t_; exact t_) | (rw [add_block] at t_ ⊢; exact t_) | (dsimp only at t_ ⊢; exact t_) | (simp only [add_block] at t_ ⊢; exact t_)) _).trans (hHeld.2.1)))))))), ((cell_far (p := ⟨gb143, _, none⟩) (by have t_ := Nat.ne_of_lt (Nat.lt_of_lt_of_le (World.block_lt_of_cell? _ _ hw140_2) GW143.out); first | exact t_ | (rw [add_block] at t_; exact t_) | (rw [add_block] at t_ ⊢; exact t_) | (dsimp only at t_ ⊢; exact t_) | (simp only [add_block] at t_ ⊢; exact t_)) _).trans (((cell_far (p := ⟨gb143, _, none⟩) (by have t_ := Nat.ne_of_lt (Nat.lt_of_lt_of_le (World.block_lt_of_cell? _ _ hw140_2) GW143.out); first | exact t_ | (rw [add_block] at t_; exact t_) | (rw [add_block] at t_ ⊢; exact t_) | (dsimp only at t_ ⊢; exact t_) | (simp only [add_block] at t_ ⊢; exact t_)) _).trans (((cell_far (p := ⟨gb143, _, none⟩) (by have t_ := Nat.ne_of_lt (Nat.lt_of_lt_of_le (World.block_lt_of_cell? _ _ hw140_2) GW143.out); first | exact t_ | (rw [add_block] at t_; exact t_) | (rw [add_block] at t_ ⊢; exact t_) | (dsimp only at t_ ⊢; exact t_) | (simp only [add_block] at t_ ⊢; exact t_)) _).trans (((cell_far (p := ⟨gb143, _, none⟩) (by have t_ := Nat.ne_of_lt (Nat.lt_of_lt_of_le (World.block_lt_of_cell? _ _ hw140_2) GW143.out); first | exact t_ | (rw [add_block] at t_; exact t_) | (rw [add_block] at t_ ⊢; exact t_) | (dsimp only at t_ ⊢; exact t_) | (simp only [add_block] at t_ ⊢; exact t_)) _).trans (hHeld.2.2.1)))))))), ((cell_far (p := ⟨gb143, _, none⟩) (by have t_ := Nat.ne_of_lt (Nat.lt_of_lt_of_le (World.block_lt_of_cell? _ _ hw140_3) GW143.out); first | exact t_ | (rw [add_block] at t_; exact t_) | (rw [add_block] at t_ ⊢; exact t_) | (dsimp only at t_ ⊢; exact t_) | (simp only [add_block] at t_ ⊢; exact t_)) _).trans (((cell_far (p := ⟨gb143, _, none⟩) (by have t_ := Nat.ne_of_lt (Nat.lt_of_lt_of_le (World.block_lt_of_cell? _ _ hw140_3) GW143.out); first | exact t_ | (rw [add_block] at t_; exact t_) | (rw [add_block] at t_ ⊢; exact t_) | (dsimp only at t_ ⊢; exact t_) | (simp only [add_block] at t_ ⊢; exact t_)) _).trans (((cell_far (p := ⟨gb143, _, none⟩) (by have t_ := Nat.ne_of_lt (Nat.lt_of_lt_of_le (World.block_lt_of_cell? _ _ hw140_3) GW143.out); first | exact t_ | (rw [add_block] at t_; exact t_) | (rw [add_block] at t_ ⊢; exact t_) | (dsimp only at t_ ⊢; exact t_) | (simp only [add_block] at t_ ⊢; exact t_)) _).trans (((cell_far (p := ⟨gb143, _, none⟩) (by have t_ := Nat.ne_of_lt (Nat.lt_of_lt_of_le (World.block_lt_of_cell? _ _ hw140_3) GW143.out); first | exact t_ | (rw [add_block] at t_; exact t_) | (rw [add_block] at t_ ⊢; exact t_) | (dsimp only at t_ ⊢; exact t_) | (simp only [add_block] at t_ ⊢; exact t_)) _).trans (hHeld.2.2.2.1)))))))), ((cell_far (p := ⟨gb143, _, none⟩) (by have t_ := Nat.ne_of_lt (Nat.lt_of_lt_of_le (World.block_lt_of_cell? _ _ hw141_0) GW143.out); first | exact t_ | (rw [add_block] at t_; exact t_) | (rw [add_block] at t_ ⊢; exact t_) | (dsimp only at t_ ⊢; exact t_) | (simp only [add_block] at t_ ⊢; exact t_)) _).trans (((cell_far (p := ⟨gb143, _, none⟩) (by have t_ := Nat.ne_of_lt (Nat.lt_of_lt_of_le (World.block_lt_of_cell? _ _ hw141_0) GW143.out); first | exact t_ | (rw [add_block] at t_; exact t_) | (rw [add_block] at t_ ⊢; exact t_) | (dsimp only at t_ ⊢; exact t_) | (simp only [add_block] at t_ ⊢; exact t_)) _).trans (((cell_far (p := ⟨gb143, _, none⟩) (by have t_ := Nat.ne_of_lt (Nat.lt_of_lt_of_le (World.block_lt_of_cell? _ _ hw141_0) GW143.out); first | exact t_ | (rw [add_block] at t_; exact t_) | (rw [add_block] at t_ ⊢; exact t_) | (dsimp only at t_ ⊢; exact t_) | (simp only [add_block] at t_ ⊢; exact t_)) _).trans (((cell_far (p := ⟨gb143, _, none⟩) (by have t_ := Nat.ne_of_lt (Nat.lt_of_lt_of_le (World.block_lt_of_cell? _ _ hw141_0) GW143.out); first | exact t_ | (rw [add_block] at t_; exact t_) | (rw [add_block] at t_ ⊢; exact t_) | (dsimp only at t_ ⊢; exact t_) | (simp only [add_block] at t_ ⊢; exact t_)) _).trans (hHeld.2.2.2.2.1)))))))), ((cell_far (p := ⟨gb143, _, none⟩) (by have t_ := Nat.ne_of_lt (Nat.lt_of_lt_of_le (World.block_lt_of_cell? _ _ hw141_1) GW143.out); first | exact t_ | (rw [add_block] at t_; exact t_) | (rw [add_block] at t_ ⊢; exact t_) | (dsimp only at t_ ⊢; exact t_) | (simp only [add_block] at t_ ⊢; exact t_)) _).trans (((cell_far (p := ⟨gb143, _, none⟩) (by have t_ := Nat.ne_of_lt (Nat.lt_of_lt_of_le (World.block_lt_of_cell? _ _ hw141_1) GW143.out); first | exact t_ | (rw [add_block] at t_; exact t_) | (rw [add_block] at t_ ⊢; exact t_) | (dsimp only at t_ ⊢; exact t_) | (simp only [add_block] at t_ ⊢; exact t_)) _).trans (((cell_far (p := ⟨gb143, _, none⟩) (by have t_ := Nat.ne_of_lt (Nat.lt_of_lt_of_le (World.block_lt_of_cell? _ _ hw141_1) GW143.out); first | exact t_ | (rw [add_block] at t_; exact t_) | (rw [add_block] at t_ ⊢; exact t_) | (dsimp only at t_ ⊢; exact t_) | (simp only [add_block] at t_ ⊢; exact t_)) _).trans (((cell_far (p := ⟨gb143, _, none⟩) (by have t_ := Nat.ne_of_lt (Nat.lt_of_lt_of_le (World.block_lt_of_cell? _ _ hw141_1) GW143.out); first | exact t_ | (rw [add_block] at t_; exact t_) | (rw [add_block] at t_ ⊢; exact t_) | (dsimp only at t_ ⊢; exact t_) | (simp only [add_block] at t_ ⊢; exact t_)) _).trans (hHeld.2.2.2.2.2.1)))))))), ((cell_far (p := ⟨gb143, _, none⟩) (by have t_ := Nat.ne_of_lt (Nat.lt_of_lt_of_le (World.block_lt_of_cell? _ _ hw141_2) GW143.out); first | exact t_ | (rw [add_block] at t_; exact t_) | (rw [add_block] at t_ ⊢; exact t_) | (dsimp only at t_ ⊢; exact t_) | (simp only [add_block] at t_ ⊢; exact t_)) _).trans (((cell_far (p := ⟨gb143, _, none⟩) (by have t_ := Nat.ne_of_lt (Nat.lt_of_lt_of_le (World.block_lt_of_cell? _ _ hw141_2) GW143.out); first | exact t_ | (rw [add_block] at t_; exact t_) | (rw [add_block] at t_ ⊢; exact t_) | (dsimp only at t_ ⊢; exact t_) | (simp only [add_block] at t_ ⊢; exact t_)) _).trans (((cell_far (p := ⟨gb143, _, none⟩) (by have t_ := Nat.ne_of_lt (Nat.lt_of_lt_of_le (World.block_lt_of_cell? _ _ hw141_2) GW143.out); first | exact t_ | (rw [add_block] at t_; exact t_) | (rw [add_block] at t_ ⊢; exact t_) | (dsimp only at t_ ⊢; exact t_) | (simp only [add_block] at t_ ⊢; exact t_)) _).trans (((cell_far (p := ⟨gb143, _, none⟩) (by have t_ := Nat.ne_of_lt (Nat.lt_of_lt_of_le (World.block_lt_of_cell? _ _ hw141_2) GW143.out); first | exact t_ | (rw [add_block] at t_; exact t_) | (rw [add_block] at t_ ⊢; exact t_) | (dsimp only at t_ ⊢; exact t_) | (simp only [add_block] at t_ ⊢; exact t_)) _).trans (hHeld.2.2.2.2.2.2.1)))))))), ((cell_far (p := ⟨gb143, _, none⟩) (by have t_ := Nat.ne_of_lt (Nat.lt_of_lt_of_le (World.block_lt_of_cell? _ _ hw141_3) GW143.out); first | exact t_ | (rw [add_block] at t_; exact t_) | (rw [add_block] at t_ ⊢; exact t_) | (dsimp only at t_ ⊢; exact t_) | (simp only [add_block] at t_ ⊢; exact t_)) _).trans (((cell_far (p := ⟨gb143, _, none⟩) (by have t_ := Nat.ne_of_lt (Nat.lt_of_lt_of_le (World.block_lt_of_cell? _ _ hw141_3) GW143.out); first | exact t_ | (rw [add_block] at t_; exact t_) | (rw [add_block] at t_ ⊢; exact t_) | (dsimp only at t_ ⊢; exact t_) | (simp only [add_block] at t_ ⊢; exact t_)) _).trans (((cell_far (p := ⟨gb143, _, none⟩) (by have t_ := Nat.ne_of_lt (Nat.lt_of_lt_of_le (World.block_lt_of_cell? _ _ hw141_3) GW143.out); first | exact t_ | (rw [add_block] at t_; exact t_) | (rw [add_block] at t_ ⊢; exact t_) | (dsimp only at t_ ⊢; exact t_) | (simp only [add_block] at t_ ⊢; exact t_)) _).trans (((cell_far (p := ⟨gb143, _, none⟩) (by have t_ := Nat.ne_of_lt (Nat.lt_of_lt_of_le (World.block_lt_of_cell? _ _ hw141_3) GW143.out); first | exact t_ | (rw [add_block] at t_; exact t_) | (rw [add_block] at t_ ⊢; exact t_) | (dsimp only at t_ ⊢; exact t_) | (simp only [add_block] at t_ ⊢; exact t_)) _).trans (hHeld.2.2.2.2.2.2.2))))))))⟩ (fun hHeld => ?_)
              clear hK K
              refine done_ (done_of HT_.out (by kernel_rfl)) ?_
              have hnb38 := NB142_143.out
              have hnc38 := NB143_142.out
              have hcz39_0 : w29.cell? ⟨gb142, 0, none⟩ = some (.int .i64 0) := (blk_cell BK142.out 0).trans rfl
              have hcz39_1 : w29.cell? ⟨gb142, 1, none⟩ = some (.int .i64 0) := (blk_cell BK142.out 1).trans rfl
              have hcz39_2 : w29.cell? ⟨gb142, 2, none⟩ = some (.int .i64 0) := (blk_cell BK142.out 2).trans rfl
              have hcz39_3 : w29.cell? ⟨gb142, 3, none⟩ = some (.int .i64 0) := (blk_cell BK142.out 3).trans rfl
              have hfz39_0 := blk_frozen BK142.out 0
              have hfz39_1 := blk_frozen BK142.out 1
              have hfz39_2 := blk_frozen BK142.out 2
              have hfz39_3 := blk_frozen BK142.out 3
              have hcz40_0 : w29.cell? ⟨gb143, 0, none⟩ = some (.int .i64 0) := (blk_cell BK143.out 0).trans rfl
              have hcz40_1 : w29.cell? ⟨gb143, 1, none⟩ = some (.int .i64 0) := (blk_cell BK143.out 1).trans rfl
              have hcz40_2 : w29.cell? ⟨gb143, 2, none⟩ = some (.int .i64 0) := (blk_cell BK143.out 2).trans rfl
              have hcz40_3 : w29.cell? ⟨gb143, 3, none⟩ = some (.int .i64 0) := (blk_cell BK143.out 3).trans rfl
              have hfz40_0 := blk_frozen BK143.out 0
              have hfz40_1 := blk_frozen BK143.out 1
              have hfz40_2 := blk_frozen BK143.out 2
              have hfz40_3 := blk_frozen BK143.out 3
              try go_wp2
              go_ret
              exact ⟨by first | rfl | (simp [errW_none, errW_some] <;> rfl) | (simp [*, errW_none, errW_some] <;> rfl), by repeat (first | (with_reducible first | exact HB.out | apply below_alloc | apply pw_below_drewN | apply below_drew1 | refine below_set ?_ GE142.out | refine below_set ?_ GE143.out) | exact HB.out)⟩
            · rw [if_neg c25] at H
              have c25b0 : (a1 == 2) = false := beq_eq_false_iff_ne.mpr c25
              have c25b1 : (a1 != 2) = true := bne_iff_ne.mpr c25
              by_cases c41 : a1 = 3
              · rw [if_pos c41] at H
                have c41b0 : (a1 == 3) = true := beq_iff_eq.mpr c41
                have c41b1 : (a1 != 3) = false := bne_eq_false_iff_eq.mpr c41
                clear c41
                obtain rfl := Option.some.inj H
                go_enter Try.func104, Try.ntmps104
                try go_wp2
                have n0_ := Aside0.mk (below_drew1 HB.out)
                clear HB
                have HB := n0_
                clear n0_
                have p140 : 0 ≤ (a2 : Int) := of_decide_eq_true (by first | (with_reducible assumption) | assumption)
                have q140 : a2 < (l0.length : Int) := of_decide_eq_true (by first | (with_reducible assumption) | assumption)
                obtain ⟨ad140, e140, hx140_0, hx140_1, hx140_2, hx140_3⟩ := at_T64 HR0.out a2 p140 q140
                have hw140_3 := hx140_3
                have hw140_2 := hx140_2
                have hw140_1 := hx140_1
                have hw140_0 := hx140_0
                cases e140
                replace hx140_0 := (HB.out.cell (World.block_lt_of_cell? w _ hx140_0)).trans hx140_0
                replace hx140_1 := (HB.out.cell (World.block_lt_of_cell? w _ hx140_1)).trans hx140_1
                replace hx140_2 := (HB.out.cell (World.block_lt_of_cell? w _ hx140_2)).trans hx140_2
                replace hx140_3 := (HB.out.cell (World.block_lt_of_cell? w _ hx140_3)).trans hx140_3
                replace p140 := eq_true p140
                replace q140 := eq_true q140
                have p141 : 0 ≤ (a3 : Int) := of_decide_eq_true (by first | (with_reducible assumption) | assumption)
                have q141 : a3 < (l0.length : Int) := of_decide_eq_true (by first | (with_reducible assumption) | assumption)
                obtain ⟨ad141, e141, hx141_0, hx141_1, hx141_2, hx141_3⟩ := at_T64 HR0.out a3 p141 q141
                have hw141_3 := hx141_3
                have hw141_2 := hx141_2
                have hw141_1 := hx141_1
                have hw141_0 := hx141_0
                obtain rfl : ad140 = ad141 := (by injection e141)
                replace hx141_0 := (HB.out.cell (World.block_lt_of_cell? w _ hx141_0)).trans hx141_0
                replace hx141_1 := (HB.out.cell (World.block_lt_of_cell? w _ hx141_1)).trans hx141_1
                replace hx141_2 := (HB.out.cell (World.block_lt_of_cell? w _ hx141_2)).trans hx141_2
                replace hx141_3 := (HB.out.cell (World.block_lt_of_cell? w _ hx141_3)).trans hx141_3
                replace p141 := eq_true p141
                replace q141 := eq_true q141
                refine start_ (n := 12) (S := fun w' => w'.cell? (ad140.add ((a2).toNat * 4)) = some (.int .i64 ((rd_T64 l0 a2).f0)) ∧ w'.cell? ⟨(ad140.add ((a2).toNat * 4)).block, (ad140.add ((a2).toNat * 4)).off + 1, none⟩ = some (.int .i64 ((rd_T64 l0 a2).f1)) ∧ w'.cell? ⟨(ad140.add ((a2).toNat * 4)).block, (ad140.add ((a2).toNat * 4)).off + 2, none⟩ = some (.int .i64 ((rd_T64 l0 a2).f2)) ∧ w'.cell? ⟨(ad140.add ((a2).toNat * 4)).block, (ad140.add ((a2).toNat * 4)).off + 3, none⟩ = some (.int .i64 ((rd_T64 l0 a2).f3)) ∧ w'.cell? (ad140.add ((a3).toNat * 4)) = some (.int .i64 ((rd_T64 l0 a3).f0)) ∧ w'.cell? ⟨(ad140.add ((a3).toNat * 4)).block, (ad140.add ((a3).toNat * 4)).off + 1, none⟩ = some (.int .i64 ((rd_T64 l0 a3).f1)) ∧ w'.cell? ⟨(ad140.add ((a3).toNat * 4)).block, (ad140.add ((a3).toNat * 4)).off + 2, none⟩ = some (.int .i64 ((rd_T64 l0 a3).f2)) ∧ w'.cell? ⟨(ad140.add ((a3).toNat * 4)).block, (ad140.add ((a3).toNat * 4)).off + 3, none⟩ = some (.int .i64 ((rd_T64 l0 a3).f3))) (ds := []) #[false, false, false, false, false, false, false, false, false, false, false, false] (by kernel_rfl) rfl rfl ⟨((HB.out.cell (World.block_lt_of_cell? w _ hw140_0)).trans hw140_0), ((HB.out.cell (World.block_lt_of_cell? w _ hw140_1)).trans hw140_1), ((HB.out.cell (World.block_lt_of_cell? w _ hw140_2)).trans hw140_2), ((HB.out.cell (World.block_lt_of_cell? w _ hw140_3)).trans hw140_3), ((HB.out.cell (World.block_lt_of_cell? w _ hw141_0)).trans hw141_0), ((HB.out.cell (World.block_lt_of_cell? w _ hw141_1)).trans hw141_1), ((HB.out.cell (World.block_lt_of_cell? w _ hw141_2)).trans hw141_2), ((HB.out.cell (World.block_lt_of_cell? w _ hw141_3)).trans hw141_3)⟩ (fun hHeld => ?_); refine with_tabW spec_l3Gap.tab1 spec_l3Gap.bits1 (fun HT_ HW_ => ?_)
                generalize w.drew = w42 at HB hx140_0 hx140_1 hx140_2 hx140_3 hx141_0 hx141_1 hx141_2 hx141_3 hHeld ⊢
                refine pure_ (i := 0) (N := some 11) (v := ?_) (a' := ?_) #[true, false, false, false, false, false, false, false, false, false, false, false] rfl rfl (any_of HT_.out (by kernel_rfl)) (fun _ _ _ h => h) (Or.inl ⟨by rfl, ?_⟩) ?_ ?_
                rotate_left
                · intro w'
                  go_simp
                  with_reducible rfl
                rotate_left
                · simp only [Act.put, List.setIfInBounds_toArray, List.set_cons_zero, List.set_cons_succ, i64_w, i32_w]
                  rfl
                refine pure_ (i := 1) (N := some 12) (v := ?_) (a' := ?_) #[true, true, false, false, false, false, false, false, false, false, false, false] rfl rfl (any_of HT_.out (by kernel_rfl)) (fun _ _ _ h => h) (Or.inl ⟨by rfl, ?_⟩) ?_ ?_
                rotate_left
                · intro w'
                  go_simp
                  with_reducible rfl
                rotate_left
                · simp only [Act.put, List.setIfInBounds_toArray, List.set_cons_zero, List.set_cons_succ, i64_w, i32_w]
                  rfl
                refine pure_ (i := 2) (N := some 13) (v := ?_) (a' := ?_) #[true, true, true, false, false, false, false, false, false, false, false, false] rfl rfl (any_of HT_.out (by kernel_rfl)) (fun _ _ _ h => h) (Or.inl ⟨by rfl, ?_⟩) ?_ ?_
                rotate_left
                · intro w'
                  go_simp
                  with_reducible rfl
                rotate_left
                · simp only [Act.put, List.setIfInBounds_toArray, List.set_cons_zero, List.set_cons_succ, i64_w, i32_w]
                  rfl
                refine pure_ (i := 4) (N := some 15) (v := ?_) (a' := ?_) #[true, true, true, false, true, false, false, false, false, false, false, false] rfl rfl (any_of HT_.out (by kernel_rfl)) (fun _ _ _ h => h) (Or.inl ⟨by rfl, ?_⟩) ?_ ?_
                rotate_left
                · intro w'
                  go_simp
                  with_reducible rfl
                rotate_left
                · simp only [Act.put, List.setIfInBounds_toArray, List.set_cons_zero, List.set_cons_succ, i64_w, i32_w]
                  rfl
                refine pure_ (i := 5) (N := some 16) (v := ?_) (a' := ?_) #[true, true, true, false, true, true, false, false, false, false, false, false] rfl rfl (any_of HT_.out (by kernel_rfl)) (fun _ _ _ h => h) (Or.inl ⟨by rfl, ?_⟩) ?_ ?_
                rotate_left
                · intro w'
                  go_simp
                  with_reducible rfl
                rotate_left
                · simp only [Act.put, List.setIfInBounds_toArray, List.set_cons_zero, List.set_cons_succ, i64_w, i32_w]
                  rfl
                refine pure_ (i := 6) (N := some 17) (v := ?_) (a' := ?_) #[true, true, true, false, true, true, true, false, false, false, false, false] rfl rfl (any_of HT_.out (by kernel_rfl)) (fun _ _ _ h => h) (Or.inl ⟨by rfl, ?_⟩) ?_ ?_
                rotate_left
                · intro w'
                  go_simp
                  with_reducible rfl
                rotate_left
                · simp only [Act.put, List.setIfInBounds_toArray, List.set_cons_zero, List.set_cons_succ, i64_w, i32_w]
                  rfl
                refine take_ (i := 3) (N := some 14) (v := ?_) (a' := ?_) #[true, true, true, true, true, true, true, false, false, false, false, false] rfl rfl (take_ofW HT_.out HW_.out (by kernel_rfl)) (fun _ _ _ h => h) (Or.inl ⟨by rfl, ?_⟩) hHeld ?_ ?_
                rotate_left
                · rintro w' ⟨s0, s1, s2, s3, s4, s5, s6, s7⟩
                  go_simp
                  with_reducible rfl
                rotate_left
                · simp only [Act.put, List.setIfInBounds_toArray, List.set_cons_zero, List.set_cons_succ, i64_w, i32_w]
                  rfl
                refine take_ (i := 7) (N := some 18) (v := ?_) (a' := ?_) #[true, true, true, true, true, true, true, true, false, false, false, false] rfl rfl (take_ofW HT_.out HW_.out (by kernel_rfl)) (fun _ _ _ h => h) (Or.inl ⟨by rfl, ?_⟩) hHeld ?_ ?_
                rotate_left
                · rintro w' ⟨s0, s1, s2, s3, s4, s5, s6, s7⟩
                  go_simp
                  with_reducible rfl
                rotate_left
                · simp only [Act.put, List.setIfInBounds_toArray, List.set_cons_zero, List.set_cons_succ, i64_w, i32_w]
                  rfl
                refine join_ (σ := Nat × Nat) 2 #[true, true, true, true, true, true, true, true, true, true, false, false] (fun s_ => [(9, .pointer (some ⟨s_.1, 0, none⟩)), (10, .pointer (some ⟨s_.2, 0, none⟩))]) (fun s_ w' => (w'.cell? (ad140.add ((a2).toNat * 4)) = some (.int .i64 ((rd_T64 l0 a2).f0)) ∧ w'.cell? ⟨(ad140.add ((a2).toNat * 4)).block, (ad140.add ((a2).toNat * 4)).off + 1, none⟩ = some (.int .i64 ((rd_T64 l0 a2).f1)) ∧ w'.cell? ⟨(ad140.add ((a2).toNat * 4)).block, (ad140.add ((a2).toNat * 4)).off + 2, none⟩ = some (.int .i64 ((rd_T64 l0 a2).f2)) ∧ w'.cell? ⟨(ad140.add ((a2).toNat * 4)).block, (ad140.add ((a2).toNat * 4)).off + 3, none⟩ = some (.int .i64 ((rd_T64 l0 a2).f3)) ∧ w'.cell? (ad140.add ((a3).toNat * 4)) = some (.int .i64 ((rd_T64 l0 a3).f0)) ∧ w'.cell? ⟨(ad140.add ((a3).toNat * 4)).block, (ad140.add ((a3).toNat * 4)).off + 1, none⟩ = some (.int .i64 ((rd_T64 l0 a3).f1)) ∧ w'.cell? ⟨(ad140.add ((a3).toNat * 4)).block, (ad140.add ((a3).toNat * 4)).off + 2, none⟩ = some (.int .i64 ((rd_T64 l0 a3).f2)) ∧ w'.cell? ⟨(ad140.add ((a3).toNat * 4)).block, (ad140.add ((a3).toNat * 4)).off + 3, none⟩ = some (.int .i64 ((rd_T64 l0 a3).f3))) ∧ (w'.heap[s_.1]? = some (.cells #[.int .i64 0, .int .i64 0, .int .i64 0, .int .i64 0] 64 (0, 0))) ∧ (w'.heap[s_.2]? = some (.cells #[.int .i64 0, .int .i64 0, .int .i64 0, .int .i64 0] 64 (0, 0))) ∧ (w.heap.size ≤ s_.1) ∧ (w.heap.size ≤ s_.1) ∧ (s_.2 ≠ s_.1) ∧ (s_.1 ≠ s_.2) ∧ (w.heap.size ≤ s_.2) ∧ (w.heap.size ≤ s_.2) ∧ (Below w.heap.size w w')) ?_ ?_
                rotate_left
                · intro hCont
                  refine two_ (i := 8) (j := 9) (Ni := some 9) (Nj := some 10) #[true, true, true, true, true, true, true, true, true, false, false, false] #[true, true, true, true, true, true, true, true, false, true, false, false] rfl rfl rfl rfl (two_of HT_.out (by kernel_rfl)) (by decide) (by decide) (fun K hK => ?_) (fun K hK => ?_)
                  · skip
                    refine box_step ?hg (N := 9) ?hd (cs := #[.int .i64 0, .int .i64 0, .int .i64 0, .int .i64 0]) (t := 64) ?hr ?_; (case hd => rfl); (case hg => rfl); (case hr => first | (go_simp; done) | (go_simp; rfl))
                    intro gb142 hg w43 hbox hb
                    have n0_ := Aside0.mk (below_step (by repeat (first | (with_reducible first | exact HB.out | apply below_alloc | apply pw_below_drewN | apply below_drew1) | exact HB.out)) hb)
                    have n1_ := Aside0.mk (hbox)
                    have n2_ := Aside0.mk ((by rw [hg]; exact (below_size (by repeat (first | (with_reducible first | exact HB.out | apply below_alloc | apply pw_below_drewN | apply below_drew1) | exact HB.out))) : w.heap.size ≤ gb142))
                    have n3_ := Aside0.mk ((by rw [hg]; exact (below_size (by repeat (first | (with_reducible first | exact HB.out | apply below_alloc | apply pw_below_drewN | apply below_drew1) | exact HB.out))) : w.heap.size ≤ gb142))
                    clear HB
                    have HB := n0_
                    have BK142 := n1_
                    have GW142 := n2_
                    have GE142 := n3_
                    clear n0_ n1_ n2_ n3_
                    clear hb hbox hg
                    refine hK.out _ _ ⟨((HB.out.cell (World.block_lt_of_cell? w _ hw140_0)).trans hw140_0), ((HB.out.cell (World.block_lt_of_cell? w _ hw140_1)).trans hw140_1), ((HB.out.cell (World.block_lt_of_cell? w _ hw140_2)).trans hw140_2), ((HB.out.cell (World.block_lt_of_cell? w _ hw140_3)).trans hw140_3), ((HB.out.cell (World.block_lt_of_cell? w _ hw141_0)).trans hw141_0), ((HB.out.cell (World.block_lt_of_cell? w _ hw141_1)).trans hw141_1), ((HB.out.cell (World.block_lt_of_cell? w _ hw141_2)).trans hw141_2), ((HB.out.cell (World.block_lt_of_cell? w _ hw141_3)).trans hw141_3)⟩ (fun hHeld => ?_)
                    clear hK K
                    refine norm_ (a' := ?_) ?_ ?_
                    rotate_left
                    · show Act.put _ (some 9) _ = _
                      simp only [Act.put, List.setIfInBounds_toArray, List.set_cons_zero, List.set_cons_succ, i64_w, i32_w]
                      rfl
                    refine one_ (i := 9) (N := some 10) #[true, true, true, true, true, true, true, true, true, true, false, false] rfl rfl (one_of HT_.out (by kernel_rfl)) (by decide) (fun K hK => ?_)
                    refine box_step ?hg (N := 10) ?hd (cs := #[.int .i64 0, .int .i64 0, .int .i64 0, .int .i64 0]) (t := 64) ?hr ?_; (case hd => rfl); (case hg => rfl); (case hr => first | (go_simp; done) | (go_simp; rfl))
                    intro gb143 hg w44 hbox hb
                    have n0_ := Aside0.mk (blk_below (g := gb142) (o := .cells #[.int .i64 0, .int .i64 0, .int .i64 0, .int .i64 0] 64 (0, 0)) (by (with_reducible repeat (first | refine blk_drewN ?_ _ | refine blk_drew ?_ | refine blk_alloc ?_ _)); exact BK142.out) hb)
                    have n1_ := Aside0.mk (below_step (by repeat (first | (with_reducible first | exact HB.out | apply below_alloc | apply pw_below_drewN | apply below_drew1 | refine below_set ?_ GE142.out) | exact HB.out)) hb)
                    have n2_ := Aside0.mk (hbox)
                    have n3_ := Aside0.mk ((by rw [hg]; exact (below_size (by repeat (first | (with_reducible first | exact HB.out | apply below_alloc | apply pw_below_drewN | apply below_drew1 | refine below_set ?_ GE142.out) | exact HB.out))) : w.heap.size ≤ gb143))
                    have n4_ := Aside0.mk ((by rw [hg]; exact (below_size (by repeat (first | (with_reducible first | exact HB.out | apply below_alloc | apply pw_below_drewN | apply below_drew1 | refine below_set ?_ GE142.out) | exact HB.out))) : w.heap.size ≤ gb143))
                    have n5_ := Aside0.mk ((by rw [hg]; exact Nat.ne_of_lt (blk_lt (g := gb142) (o := .cells #[.int .i64 0, .int .i64 0, .int .i64 0, .int .i64 0] 64 (0, 0)) (by (with_reducible repeat (first | refine blk_drewN ?_ _ | refine blk_drew ?_ | refine blk_alloc ?_ _)); exact BK142.out)) : gb142 ≠ gb143))
                    have n6_ := Aside0.mk ((by rw [hg]; exact Nat.ne_of_gt (blk_lt (g := gb142) (o := .cells #[.int .i64 0, .int .i64 0, .int .i64 0, .int .i64 0] 64 (0, 0)) (by (with_reducible repeat (first | refine blk_drewN ?_ _ | refine blk_drew ?_ | refine blk_alloc ?_ _)); exact BK142.out)) : gb143 ≠ gb142))
                    clear BK142
                    clear HB
                    have BK142 := n0_
                    have HB := n1_
                    have BK143 := n2_
                    have GW143 := n3_
                    have GE143 := n4_
                    have NB142_143 := n5_
                    have NB143_142 := n6_
                    clear n0_ n1_ n2_ n3_ n4_ n5_ n6_
                    clear hb hbox hg
                    refine hK.out _ _ ⟨((HB.out.cell (World.block_lt_of_cell? w _ hw140_0)).trans hw140_0), ((HB.out.cell (World.block_lt_of_cell? w _ hw140_1)).trans hw140_1), ((HB.out.cell (World.block_lt_of_cell? w _ hw140_2)).trans hw140_2), ((HB.out.cell (World.block_lt_of_cell? w _ hw140_3)).trans hw140_3), ((HB.out.cell (World.block_lt_of_cell? w _ hw141_0)).trans hw141_0), ((HB.out.cell (World.block_lt_of_cell? w _ hw141_1)).trans hw141_1), ((HB.out.cell (World.block_lt_of_cell? w _ hw141_2)).trans hw141_2), ((HB.out.cell (World.block_lt_of_cell? w _ hw141_3)).trans hw141_3)⟩ (fun hHeld => ?_)
                    clear hK K
                    refine norm_ (a' := ?_) ?_ ?_
                    rotate_left
                    · show Act.put _ (some 10) _ = _
                      simp only [Act.put, List.setIfInBounds_toArray, List.set_cons_zero, List.set_cons_succ, i64_w, i32_w]
                      rfl
                    exact norm_ (by simp only [putAll, Act.put, List.setIfInBounds_toArray, List.set_cons_zero, List.set_cons_succ]) (hCont (gb142, gb143) _ ⟨hHeld, (by (with_reducible repeat (first | refine blk_drewN ?_ _ | refine blk_drew ?_ | refine blk_alloc ?_ _)); exact BK142.out), (by (with_reducible repeat (first | refine blk_drewN ?_ _ | refine blk_drew ?_ | refine blk_alloc ?_ _)); exact BK143.out), GW142.out, GE142.out, NB143_142.out, NB142_143.out, GW143.out, GE143.out, (by repeat (first | (with_reducible first | exact HB.out | apply below_alloc | apply pw_below_drewN | apply below_drew1 | refine below_set ?_ GE142.out | refine below_set ?_ GE143.out) | exact HB.out))⟩)
                  · skip
                    refine box_step ?hg (N := 10) ?hd (cs := #[.int .i64 0, .int .i64 0, .int .i64 0, .int .i64 0]) (t := 64) ?hr ?_; (case hd => rfl); (case hg => rfl); (case hr => first | (go_simp; done) | (go_simp; rfl))
                    intro gb143 hg w43 hbox hb
                    have n0_ := Aside0.mk (below_step (by repeat (first | (with_reducible first | exact HB.out | apply below_alloc | apply pw_below_drewN | apply below_drew1) | exact HB.out)) hb)
                    have n1_ := Aside0.mk (hbox)
                    have n2_ := Aside0.mk ((by rw [hg]; exact (below_size (by repeat (first | (with_reducible first | exact HB.out | apply below_alloc | apply pw_below_drewN | apply below_drew1) | exact HB.out))) : w.heap.size ≤ gb143))
                    have n3_ := Aside0.mk ((by rw [hg]; exact (below_size (by repeat (first | (with_reducible first | exact HB.out | apply below_alloc | apply pw_below_drewN | apply below_drew1) | exact HB.out))) : w.heap.size ≤ gb143))
                    clear HB
                    have HB := n0_
                    have BK143 := n1_
                    have GW143 := n2_
                    have GE143 := n3_
                    clear n0_ n1_ n2_ n3_
                    clear hb hbox hg
                    refine hK.out _ _ ⟨((HB.out.cell (World.block_lt_of_cell? w _ hw140_0)).trans hw140_0), ((HB.out.cell (World.block_lt_of_cell? w _ hw140_1)).trans hw140_1), ((HB.out.cell (World.block_lt_of_cell? w _ hw140_2)).trans hw140_2), ((HB.out.cell (World.block_lt_of_cell? w _ hw140_3)).trans hw140_3), ((HB.out.cell (World.block_lt_of_cell? w _ hw141_0)).trans hw141_0), ((HB.out.cell (World.block_lt_of_cell? w _ hw141_1)).trans hw141_1), ((HB.out.cell (World.block_lt_of_cell? w _ hw141_2)).trans hw141_2), ((HB.out.cell (World.block_lt_of_cell? w _ hw141_3)).trans hw141_3)⟩ (fun hHeld => ?_)
                    clear hK K
                    refine norm_ (a' := ?_) ?_ ?_
                    rotate_left
                    · show Act.put _ (some 10) _ = _
                      simp only [Act.put, List.setIfInBounds_toArray, List.set_cons_zero, List.set_cons_succ, i64_w, i32_w]
                      rfl
                    refine one_ (i := 8) (N := some 9) #[true, true, true, true, true, true, true, true, true, true, false, false] rfl rfl (one_of HT_.out (by kernel_rfl)) (by decide) (fun K hK => ?_)
                    refine box_step ?hg (N := 9) ?hd (cs := #[.int .i64 0, .int .i64 0, .int .i64 0, .int .i64 0]) (t := 64) ?hr ?_; (case hd => rfl); (case hg => rfl); (case hr => first | (go_simp; done) | (go_simp; rfl))
                    intro gb142 hg w44 hbox hb
                    have n0_ := Aside0.mk (blk_below (g := gb143) (o := .cells #[.int .i64 0, .int .i64 0, .int .i64 0, .int .i64 0] 64 (0, 0)) (by (with_reducible repeat (first | refine blk_drewN ?_ _ | refine blk_drew ?_ | refine blk_alloc ?_ _)); exact BK143.out) hb)
                    have n1_ := Aside0.mk (below_step (by repeat (first | (with_reducible first | exact HB.out | apply below_alloc | apply pw_below_drewN | apply below_drew1 | refine below_set ?_ GE143.out) | exact HB.out)) hb)
                    have n2_ := Aside0.mk (hbox)
                    have n3_ := Aside0.mk ((by rw [hg]; exact (below_size (by repeat (first | (with_reducible first | exact HB.out | apply below_alloc | apply pw_below_drewN | apply below_drew1 | refine below_set ?_ GE143.out) | exact HB.out))) : w.heap.size ≤ gb142))
                    have n4_ := Aside0.mk ((by rw [hg]; exact (below_size (by repeat (first | (with_reducible first | exact HB.out | apply below_alloc | apply pw_below_drewN | apply below_drew1 | refine below_set ?_ GE143.out) | exact HB.out))) : w.heap.size ≤ gb142))
                    have n5_ := Aside0.mk ((by rw [hg]; exact Nat.ne_of_lt (blk_lt (g := gb143) (o := .cells #[.int .i64 0, .int .i64 0, .int .i64 0, .int .i64 0] 64 (0, 0)) (by (with_reducible repeat (first | refine blk_drewN ?_ _ | refine blk_drew ?_ | refine blk_alloc ?_ _)); exact BK143.out)) : gb143 ≠ gb142))
                    have n6_ := Aside0.mk ((by rw [hg]; exact Nat.ne_of_gt (blk_lt (g := gb143) (o := .cells #[.int .i64 0, .int .i64 0, .int .i64 0, .int .i64 0] 64 (0, 0)) (by (with_reducible repeat (first | refine blk_drewN ?_ _ | refine blk_drew ?_ | refine blk_alloc ?_ _)); exact BK143.out)) : gb142 ≠ gb143))
                    clear BK143
                    clear HB
                    have BK143 := n0_
                    have HB := n1_
                    have BK142 := n2_
                    have GW142 := n3_
                    have GE142 := n4_
                    have NB143_142 := n5_
                    have NB142_143 := n6_
                    clear n0_ n1_ n2_ n3_ n4_ n5_ n6_
                    clear hb hbox hg
                    refine hK.out _ _ ⟨((HB.out.cell (World.block_lt_of_cell? w _ hw140_0)).trans hw140_0), ((HB.out.cell (World.block_lt_of_cell? w _ hw140_1)).trans hw140_1), ((HB.out.cell (World.block_lt_of_cell? w _ hw140_2)).trans hw140_2), ((HB.out.cell (World.block_lt_of_cell? w _ hw140_3)).trans hw140_3), ((HB.out.cell (World.block_lt_of_cell? w _ hw141_0)).trans hw141_0), ((HB.out.cell (World.block_lt_of_cell? w _ hw141_1)).trans hw141_1), ((HB.out.cell (World.block_lt_of_cell? w _ hw141_2)).trans hw141_2), ((HB.out.cell (World.block_lt_of_cell? w _ hw141_3)).trans hw141_3)⟩ (fun hHeld => ?_)
                    clear hK K
                    refine norm_ (a' := ?_) ?_ ?_
                    rotate_left
                    · show Act.put _ (some 9) _ = _
                      simp only [Act.put, List.setIfInBounds_toArray, List.set_cons_zero, List.set_cons_succ, i64_w, i32_w]
                      rfl
                    exact norm_ (by simp only [putAll, Act.put, List.setIfInBounds_toArray, List.set_cons_zero, List.set_cons_succ]) (hCont (gb142, gb143) _ ⟨hHeld, (by (with_reducible repeat (first | refine blk_drewN ?_ _ | refine blk_drew ?_ | refine blk_alloc ?_ _)); exact BK142.out), (by (with_reducible repeat (first | refine blk_drewN ?_ _ | refine blk_drew ?_ | refine blk_alloc ?_ _)); exact BK143.out), GW142.out, GE142.out, NB143_142.out, NB142_143.out, GW143.out, GE143.out, (by repeat (first | (with_reducible first | exact HB.out | apply below_alloc | apply pw_below_drewN | apply below_drew1 | refine below_set ?_ GE143.out | refine below_set ?_ GE142.out) | exact HB.out))⟩)
                rintro ⟨gb142, gb143⟩ w45 ⟨hS_, h0_, h1_, h2_, h3_, h4_, h5_, h6_, h7_, h8_⟩
                have n0_ : Aside0 (w45.heap[gb142]? = some (.cells #[.int .i64 0, .int .i64 0, .int .i64 0, .int .i64 0] 64 (0, 0))) := ⟨h0_⟩
                have n1_ : Aside0 (w45.heap[gb143]? = some (.cells #[.int .i64 0, .int .i64 0, .int .i64 0, .int .i64 0] 64 (0, 0))) := ⟨h1_⟩
                have n2_ : Aside0 (w.heap.size ≤ gb142) := ⟨h2_⟩
                have n3_ : Aside0 (w.heap.size ≤ gb142) := ⟨h3_⟩
                have n4_ : Aside0 (gb143 ≠ gb142) := ⟨h4_⟩
                have n5_ : Aside0 (gb142 ≠ gb143) := ⟨h5_⟩
                have n6_ : Aside0 (w.heap.size ≤ gb143) := ⟨h6_⟩
                have n7_ : Aside0 (w.heap.size ≤ gb143) := ⟨h7_⟩
                have n8_ : Aside0 (Below w.heap.size w w45) := ⟨h8_⟩
                clear HB
                clear h0_ h1_ h2_ h3_ h4_ h5_ h6_ h7_ h8_
                have BK142 := n0_
                have BK143 := n1_
                have GW142 := n2_
                have GE142 := n3_
                have NB143_142 := n4_
                have NB142_143 := n5_
                have GW143 := n6_
                have GE143 := n7_
                have HB := n8_
                clear n0_ n1_ n2_ n3_ n4_ n5_ n6_ n7_ n8_
                have hHeld : w45.cell? (ad140.add ((a2).toNat * 4)) = some (.int .i64 ((rd_T64 l0 a2).f0)) ∧ w45.cell? ⟨(ad140.add ((a2).toNat * 4)).block, (ad140.add ((a2).toNat * 4)).off + 1, none⟩ = some (.int .i64 ((rd_T64 l0 a2).f1)) ∧ w45.cell? ⟨(ad140.add ((a2).toNat * 4)).block, (ad140.add ((a2).toNat * 4)).off + 2, none⟩ = some (.int .i64 ((rd_T64 l0 a2).f2)) ∧ w45.cell? ⟨(ad140.add ((a2).toNat * 4)).block, (ad140.add ((a2).toNat * 4)).off + 3, none⟩ = some (.int .i64 ((rd_T64 l0 a2).f3)) ∧ w45.cell? (ad140.add ((a3).toNat * 4)) = some (.int .i64 ((rd_T64 l0 a3).f0)) ∧ w45.cell? ⟨(ad140.add ((a3).toNat * 4)).block, (ad140.add ((a3).toNat * 4)).off + 1, none⟩ = some (.int .i64 ((rd_T64 l0 a3).f1)) ∧ w45.cell? ⟨(ad140.add ((a3).toNat * 4)).block, (ad140.add ((a3).toNat * 4)).off + 2, none⟩ = some (.int .i64 ((rd_T64 l0 a3).f2)) ∧ w45.cell? ⟨(ad140.add ((a3).toNat * 4)).block, (ad140.add ((a3).toNat * 4)).off + 3, none⟩ = some (.int .i64 ((rd_T64 l0 a3).f3)) := hS_
                refine norm_ (a' := ?_) ?_ ?_
                rotate_left
                · simp only [putAll, Act.put, List.setIfInBounds_toArray, List.set_cons_zero, List.set_cons_succ]
                  rfl
                refine one_ (i := 10) (N := none) #[true, true, true, true, true, true, true, true, true, true, true, false] rfl rfl (one_of HT_.out (by kernel_rfl)) (by decide) (fun K hK => ?_)
                have hs46 : w45.cell? ⟨gb142, 0, none⟩ = some (.int .i64 0) := (blk_cell BK142.out 0).trans rfl
                have hfs46 := blk_frozen BK142.out 0
                have hns46_1 := NB143_142.out
                have hms46_1 := NB142_143.out
                have hs47 : w45.cell? ⟨gb142, 1, none⟩ = some (.int .i64 0) := (blk_cell BK142.out 1).trans rfl
                have hfs47 := blk_frozen BK142.out 1
                have hns47_1 := NB143_142.out
                have hms47_1 := NB142_143.out
                have hs48 : w45.cell? ⟨gb142, 2, none⟩ = some (.int .i64 0) := (blk_cell BK142.out 2).trans rfl
                have hfs48 := blk_frozen BK142.out 2
                have hns48_1 := NB143_142.out
                have hms48_1 := NB142_143.out
                have hs49 : w45.cell? ⟨gb142, 3, none⟩ = some (.int .i64 0) := (blk_cell BK142.out 3).trans rfl
                have hfs49 := blk_frozen BK142.out 3
                have hns49_1 := NB143_142.out
                have hms49_1 := NB142_143.out
                refine skip_ (w1 := ?_) (by rfl) rfl ?_ ?_
                rotate_left
                · go_simp
                  rfl
                refine hK.out _ _ ⟨((cell_far (p := ⟨gb142, _, none⟩) (by have t_ := Nat.ne_of_lt (Nat.lt_of_lt_of_le (World.block_lt_of_cell? _ _ hw140_0) GW142.out); first | exact t_ | (rw [add_block] at t_; exact t_) | (rw [add_block] at t_ ⊢; exact t_) | (dsimp only at t_ ⊢; exact t_) | (simp only [add_block] at t_ ⊢; exact t_)) _).trans (((cell_far (p := ⟨gb142, _, none⟩) (by have t_ := Nat.ne_of_lt (Nat.lt_of_lt_of_le (World.block_lt_of_cell? _ _ hw140_0) GW142.out); first | exact t_ | (rw [add_block] at t_; exact t_) | (rw [add_block] at t_ ⊢; exact t_) | (dsimp only at t_ ⊢; exact t_) | (simp only [add_block] at t_ ⊢; exact t_)) _).trans (((cell_far (p := ⟨gb142, _, none⟩) (by have t_ := Nat.ne_of_lt (Nat.lt_of_lt_of_le (World.block_lt_of_cell? _ _ hw140_0) GW142.out); first | exact t_ | (rw [add_block] at t_; exact t_) | (rw [add_block] at t_ ⊢; exact t_) | (dsimp only at t_ ⊢; exact t_) | (simp only [add_block] at t_ ⊢; exact t_)) _).trans (((cell_far (p := ⟨gb142, _, none⟩) (by have t_ := Nat.ne_of_lt (Nat.lt_of_lt_of_le (World.block_lt_of_cell? _ _ hw140_0) GW142.out); first | exact t_ | (rw [add_block] at t_; exact t_) | (rw [add_block] at t_ ⊢; exact t_) | (dsimp only at t_ ⊢; exact t_) | (simp only [add_block] at t_ ⊢; exact t_)) _).trans (hHeld.1)))))))), ((cell_far (p := ⟨gb142, _, none⟩) (by have t_ := Nat.ne_of_lt (Nat.lt_of_lt_of_le (World.block_lt_of_cell? _ _ hw140_1) GW142.out); first | exact t_ | (rw [add_block] at t_; exact t_) | (rw [add_block] at t_ ⊢; exact t_) | (dsimp only at t_ ⊢; exact t_) | (simp only [add_block] at t_ ⊢; exact t_)) _).trans (((cell_far (p := ⟨gb142, _, none⟩) (by have t_ := Nat.ne_of_lt (Nat.lt_of_lt_of_le (World.block_lt_of_cell? _ _ hw140_1) GW142.out); first | exact t_ | (rw [add_block] at t_; exact t_) | (rw [add_block] at t_ ⊢; exact t_) | (dsimp only at t_ ⊢; exact t_) | (simp only [add_block] at t_ ⊢; exact t_)) _).trans (((cell_far (p := ⟨gb142, _, none⟩) (by have t_ := Nat.ne_of_lt (Nat.lt_of_lt_of_le (World.block_lt_of_cell? _ _ hw140_1) GW142.out); first | exact t_ | (rw [add_block] at t_; exact t_) | (rw [add_block] at t_ ⊢; exact t_) | (dsimp only at t_ ⊢; exact t_) | (simp only [add_block] at t_ ⊢; exact t_)) _).trans (((cell_far (p := ⟨gb142, _, none⟩) (by have t_ := Nat.ne_of_lt (Nat.lt_of_lt_of_le (World.block_lt_of_cell? _ _ hw140_1) GW142.out); first | exact t_ | (rw [add_block] at t_; exact t_) | (rw [add_block] at t_ ⊢; exact t_) | (dsimp only at t_ ⊢; exact t_) | (simp only [add_block] at t_ ⊢; exact t_)) _).trans (hHeld.2.1)))))))), ((cell_far (p := ⟨gb142, _, none⟩) (by have t_ := Nat.ne_of_lt (Nat.lt_of_lt_of_le (World.block_lt_of_cell? _ _ hw140_2) GW142.out); first | exact t_ | (rw [add_block] at t_; exact t_) | (rw [add_block] at t_ ⊢; exact t_) | (dsimp only at t_ ⊢; exact t_) | (simp only [add_block] at t_ ⊢; exact t_)) _).trans (((cell_far (p := ⟨gb142, _, none⟩) (by have t_ := Nat.ne_of_lt (Nat.lt_of_lt_of_le (World.block_lt_of_cell? _ _ hw140_2) GW142.out); first | exact t_ | (rw [add_block] at t_; exact t_) | (rw [add_block] at t_ ⊢; exact t_) | (dsimp only at t_ ⊢; exact t_) | (simp only [add_block] at t_ ⊢; exact t_)) _).trans (((cell_far (p := ⟨gb142, _, none⟩) (by have t_ := Nat.ne_of_lt (Nat.lt_of_lt_of_le (World.block_lt_of_cell? _ _ hw140_2) GW142.out); first | exact t_ | (rw [add_block] at t_; exact t_) | (rw [add_block] at t_ ⊢; exact t_) | (dsimp only at t_ ⊢; exact t_) | (simp only [add_block] at t_ ⊢; exact t_)) _).trans (((cell_far (p := ⟨gb142, _, none⟩) (by have t_ := Nat.ne_of_lt (Nat.lt_of_lt_of_le (World.block_lt_of_cell? _ _ hw140_2) GW142.out); first | exact t_ | (rw [add_block] at t_; exact t_) | (rw [add_block] at t_ ⊢; exact t_) | (dsimp only at t_ ⊢; exact t_) | (simp only [add_block] at t_ ⊢; exact t_)) _).trans (hHeld.2.2.1)))))))), ((cell_far (p := ⟨gb142, _, none⟩) (by have t_ := Nat.ne_of_lt (Nat.lt_of_lt_of_le (World.block_lt_of_cell? _ _ hw140_3) GW142.out); first | exact t_ | (rw [add_block] at t_; exact t_) | (rw [add_block] at t_ ⊢; exact t_) | (dsimp only at t_ ⊢; exact t_) | (simp only [add_block] at t_ ⊢; exact t_)) _).trans (((cell_far (p := ⟨gb142, _, none⟩) (by have t_ := Nat.ne_of_lt (Nat.lt_of_lt_of_le (World.block_lt_of_cell? _ _ hw140_3) GW142.out); first | exact t_ | (rw [add_block] at t_; exact t_) | (rw [add_block] at t_ ⊢; exact t_) | (dsimp only at t_ ⊢; exact t_) | (simp only [add_block] at t_ ⊢; exact t_)) _).trans (((cell_far (p := ⟨gb142, _, none⟩) (by have t_ := Nat.ne_of_lt (Nat.lt_of_lt_of_le (World.block_lt_of_cell? _ _ hw140_3) GW142.out); first | exact t_ | (rw [add_block] at t_; exact t_) | (rw [add_block] at t_ ⊢; exact t_) | (dsimp only at t_ ⊢; exact t_) | (simp only [add_block] at t_ ⊢; exact t_)) _).trans (((cell_far (p := ⟨gb142, _, none⟩) (by have t_ := Nat.ne_of_lt (Nat.lt_of_lt_of_le (World.block_lt_of_cell? _ _ hw140_3) GW142.out); first | exact t_ | (rw [add_block] at t_; exact t_) | (rw [add_block] at t_ ⊢; exact t_) | (dsimp only at t_ ⊢; exact t_) | (simp only [add_block] at t_ ⊢; exact t_)) _).trans (hHeld.2.2.2.1)))))))), ((cell_far (p := ⟨gb142, _, none⟩) (by have t_ := Nat.ne_of_lt (Nat.lt_of_lt_of_le (World.block_lt_of_cell? _ _ hw141_0) GW142.out); first | exact t_ | (rw [add_block] at t_; exact t_) | (rw [add_block] at t_ ⊢; exact t_) | (dsimp only at t_ ⊢; exact t_) | (simp only [add_block] at t_ ⊢; exact t_)) _).trans (((cell_far (p := ⟨gb142, _, none⟩) (by have t_ := Nat.ne_of_lt (Nat.lt_of_lt_of_le (World.block_lt_of_cell? _ _ hw141_0) GW142.out); first | exact t_ | (rw [add_block] at t_; exact t_) | (rw [add_block] at t_ ⊢; exact t_) | (dsimp only at t_ ⊢; exact t_) | (simp only [add_block] at t_ ⊢; exact t_)) _).trans (((cell_far (p := ⟨gb142, _, none⟩) (by have t_ := Nat.ne_of_lt (Nat.lt_of_lt_of_le (World.block_lt_of_cell? _ _ hw141_0) GW142.out); first | exact t_ | (rw [add_block] at t_; exact t_) | (rw [add_block] at t_ ⊢; exact t_) | (dsimp only at t_ ⊢; exact t_) | (simp only [add_block] at t_ ⊢; exact t_)) _).trans (((cell_far (p := ⟨gb142, _, none⟩) (by have t_ := Nat.ne_of_lt (Nat.lt_of_lt_of_le (World.block_lt_of_cell? _ _ hw141_0) GW142.out); first | exact t_ | (rw [add_block] at t_; exact t_) | (rw [add_block] at t_ ⊢; exact t_) | (dsimp only at t_ ⊢; exact t_) | (simp only [add_block] at t_ ⊢; exact t_)) _).trans (hHeld.2.2.2.2.1)))))))), ((cell_far (p := ⟨gb142, _, none⟩) (by have t_ := Nat.ne_of_lt (Nat.lt_of_lt_of_le (World.block_lt_of_cell? _ _ hw141_1) GW142.out); first | exact t_ | (rw [add_block] at t_; exact t_) | (rw [add_block] at t_ ⊢; exact t_) | (dsimp only at t_ ⊢; exact t_) | (simp only [add_block] at t_ ⊢; exact t_)) _).trans (((cell_far (p := ⟨gb142, _, none⟩) (by have t_ := Nat.ne_of_lt (Nat.lt_of_lt_of_le (World.block_lt_of_cell? _ _ hw141_1) GW142.out); first | exact t_ | (rw [add_block] at t_; exact t_) | (rw [add_block] at t_ ⊢; exact t_) | (dsimp only at t_ ⊢; exact t_) | (simp only [add_block] at t_ ⊢; exact t_)) _).trans (((cell_far (p := ⟨gb142, _, none⟩) (by have t_ := Nat.ne_of_lt (Nat.lt_of_lt_of_le (World.block_lt_of_cell? _ _ hw141_1) GW142.out); first | exact t_ | (rw [add_block] at t_; exact t_) | (rw [add_block] at t_ ⊢; exact t_) | (dsimp only at t_ ⊢; exact t_) | (simp only [add_block] at t_ ⊢; exact t_)) _).trans (((cell_far (p := ⟨gb142, _, none⟩) (by have t_ := Nat.ne_of_lt (Nat.lt_of_lt_of_le (World.block_lt_of_cell? _ _ hw141_1) GW142.out); first | exact t_ | (rw [add_block] at t_; exact t_) | (rw [add_block] at t_ ⊢; exact t_) | (dsimp only at t_ ⊢; exact t_) | (simp only [add_block] at t_ ⊢; exact t_)) _).trans (hHeld.2.2.2.2.2.1)))))))), ((cell_far (p := ⟨gb142, _, none⟩) (by have t_ := Nat.ne_of_lt (Nat.lt_of_lt_of_le (World.block_lt_of_cell? _ _ hw141_2) GW142.out); first | exact t_ | (rw [add_block] at t_; exact t_) | (rw [add_block] at t_ ⊢; exact t_) | (dsimp only at t_ ⊢; exact t_) | (simp only [add_block] at t_ ⊢; exact t_)) _).trans (((cell_far (p := ⟨gb142, _, none⟩) (by have t_ := Nat.ne_of_lt (Nat.lt_of_lt_of_le (World.block_lt_of_cell? _ _ hw141_2) GW142.out); first | exact t_ | (rw [add_block] at t_; exact t_) | (rw [add_block] at t_ ⊢; exact t_) | (dsimp only at t_ ⊢; exact t_) | (simp only [add_block] at t_ ⊢; exact t_)) _).trans (((cell_far (p := ⟨gb142, _, none⟩) (by have t_ := Nat.ne_of_lt (Nat.lt_of_lt_of_le (World.block_lt_of_cell? _ _ hw141_2) GW142.out); first | exact t_ | (rw [add_block] at t_; exact t_) | (rw [add_block] at t_ ⊢; exact t_) | (dsimp only at t_ ⊢; exact t_) | (simp only [add_block] at t_ ⊢; exact t_)) _).trans (((cell_far (p := ⟨gb142, _, none⟩) (by have t_ := Nat.ne_of_lt (Nat.lt_of_lt_of_le (World.block_lt_of_cell? _ _ hw141_2) GW142.out); first | exact t_ | (rw [add_block] at t_; exact t_) | (rw [add_block] at t_ ⊢; exact t_) | (dsimp only at t_ ⊢; exact t_) | (simp only [add_block] at t_ ⊢; exact t_)) _).trans (hHeld.2.2.2.2.2.2.1)))))))), ((cell_far (p := ⟨gb142, _, none⟩) (by have t_ := Nat.ne_of_lt (Nat.lt_of_lt_of_le (World.block_lt_of_cell? _ _ hw141_3) GW142.out); first | exact t_ | (rw [add_block] at t_; exact t_) | (rw [add_block] at t_ ⊢; exact t_) | (dsimp only at t_ ⊢; exact t_) | (simp only [add_block] at t_ ⊢; exact t_)) _).trans (((cell_far (p := ⟨gb142, _, none⟩) (by have t_ := Nat.ne_of_lt (Nat.lt_of_lt_of_le (World.block_lt_of_cell? _ _ hw141_3) GW142.out); first | exact t_ | (rw [add_block] at t_; exact t_) | (rw [add_block] at t_ ⊢; exact t_) | (dsimp only at t_ ⊢; exact t_) | (simp only [add_block] at t_ ⊢; exact t_)) _).trans (((cell_far (p := ⟨gb142, _, none⟩) (by have t_ := Nat.ne_of_lt (Nat.lt_of_lt_of_le (World.block_lt_of_cell? _ _ hw141_3) GW142.out); first | exact t_ | (rw [add_block] at t_; exact t_) | (rw [add_block] at t_ ⊢; exact t_) | (dsimp only at t_ ⊢; exact t_) | (simp only [add_block] at t_ ⊢; exact t_)) _).trans (((cell_far (p := ⟨gb142, _, none⟩) (by have t_ := Nat.ne_of_lt (Nat.lt_of_lt_of_le (World.block_lt_of_cell? _ _ hw141_3) GW142.out); first | exact t_ | (rw [add_block] at t_; exact t_) | (rw [add_block] at t_ ⊢; exact t_) | (dsimp only at t_ ⊢; exact t_) | (simp only [add_block] at t_ ⊢; exact t_)) _).trans (hHeld.2.2.2.2.2.2.2))))))))⟩ (fun hHeld => ?_)
                clear hK K
                refine one_ (i := 11) (N := none) #[true, true, true, true, true, true, true, true, true, true, true, true] rfl rfl (one_of HT_.out (by kernel_rfl)) (by decide) (fun K hK => ?_)
                have hs50 : w45.cell? ⟨gb143, 0, none⟩ = some (.int .i64 0) := (blk_cell BK143.out 0).trans rfl
                have hfs50 := blk_frozen BK143.out 0
                have hns50_0 := NB142_143.out
                have hms50_0 := NB143_142.out
                have hs51 : w45.cell? ⟨gb143, 1, none⟩ = some (.int .i64 0) := (blk_cell BK143.out 1).trans rfl
                have hfs51 := blk_frozen BK143.out 1
                have hns51_0 := NB142_143.out
                have hms51_0 := NB143_142.out
                have hs52 : w45.cell? ⟨gb143, 2, none⟩ = some (.int .i64 0) := (blk_cell BK143.out 2).trans rfl
                have hfs52 := blk_frozen BK143.out 2
                have hns52_0 := NB142_143.out
                have hms52_0 := NB143_142.out
                have hs53 : w45.cell? ⟨gb143, 3, none⟩ = some (.int .i64 0) := (blk_cell BK143.out 3).trans rfl
                have hfs53 := blk_frozen BK143.out 3
                have hns53_0 := NB142_143.out
                have hms53_0 := NB143_142.out
                refine skip_ (w1 := ?_) (by rfl) rfl ?_ ?_
                rotate_left
                · go_simp
                  rfl
                refine hK.out _ _ ⟨((cell_far (p := ⟨gb143, _, none⟩) (by have t_ := Nat.ne_of_lt (Nat.lt_of_lt_of_le (World.block_lt_of_cell? _ _ hw140_0) GW143.out); first | exact t_ | (rw [add_block] at t_; exact t_) | (rw [add_block] at t_ ⊢; exact t_) | (dsimp only at t_ ⊢; exact t_) | (simp only [add_block] at t_ ⊢; exact t_)) _).trans (((cell_far (p := ⟨gb143, _, none⟩) (by have t_ := Nat.ne_of_lt (Nat.lt_of_lt_of_le (World.block_lt_of_cell? _ _ hw140_0) GW143.out); first | exact t_ | (rw [add_block] at t_; exact t_) | (rw [add_block] at t_ ⊢; exact t_) | (dsimp only at t_ ⊢; exact t_) | (simp only [add_block] at t_ ⊢; exact t_)) _).trans (((cell_far (p := ⟨gb143, _, none⟩) (by have t_ := Nat.ne_of_lt (Nat.lt_of_lt_of_le (World.block_lt_of_cell? _ _ hw140_0) GW143.out); first | exact t_ | (rw [add_block] at t_; exact t_) | (rw [add_block] at t_ ⊢; exact t_) | (dsimp only at t_ ⊢; exact t_) | (simp only [add_block] at t_ ⊢; exact t_)) _).trans (((cell_far (p := ⟨gb143, _, none⟩) (by have t_ := Nat.ne_of_lt (Nat.lt_of_lt_of_le (World.block_lt_of_cell? _ _ hw140_0) GW143.out); first | exact t_ | (rw [add_block] at t_; exact t_) | (rw [add_block] at t_ ⊢; exact t_) | (dsimp only at t_ ⊢; exact t_) | (simp only [add_block] at t_ ⊢; exact t_)) _).trans (hHeld.1)))))))), ((cell_far (p := ⟨gb143, _, none⟩) (by have t_ := Nat.ne_of_lt (Nat.lt_of_lt_of_le (World.block_lt_of_cell? _ _ hw140_1) GW143.out); first | exact t_ | (rw [add_block] at t_; exact t_) | (rw [add_block] at t_ ⊢; exact t_) | (dsimp only at t_ ⊢; exact t_) | (simp only [add_block] at t_ ⊢; exact t_)) _).trans (((cell_far (p := ⟨gb143, _, none⟩) (by have t_ := Nat.ne_of_lt (Nat.lt_of_lt_of_le (World.block_lt_of_cell? _ _ hw140_1) GW143.out); first | exact t_ | (rw [add_block] at t_; exact t_) | (rw [add_block] at t_ ⊢; exact t_) | (dsimp only at t_ ⊢; exact t_) | (simp only [add_block] at t_ ⊢; exact t_)) _).trans (((cell_far (p := ⟨gb143, _, none⟩) (by have t_ := Nat.ne_of_lt (Nat.lt_of_lt_of_le (World.block_lt_of_cell? _ _ hw140_1) GW143.out); first | exact t_ | (rw [add_block] at t_; exact t_) | (rw [add_block] at t_ ⊢; exact t_) | (dsimp only at t_ ⊢; exact t_) | (simp only [add_block] at t_ ⊢; exact t_)) _).trans (((cell_far (p := ⟨gb143, _, none⟩) (by have t_ := Nat.ne_of_lt (Nat.lt_of_lt_of_le (World.block_lt_of_cell? _ _ hw140_1) GW143.out); first | exact t_ | (rw [add_block] at t_; exact t_) | (rw [add_block] at t_ ⊢; exact t_) | (dsimp only at t_ ⊢; exact t_) | (simp only [add_block] at t_ ⊢; exact t_)) _).trans (hHeld.2.1)))))))), ((cell_far (p := ⟨gb143, _, none⟩) (by have t_ := Nat.ne_of_lt (Nat.lt_of_lt_of_le (World.block_lt_of_cell? _ _ hw140_2) GW143.out); first | exact t_ | (rw [add_block] at t_; exact t_) | (rw [add_block] at t_ ⊢; exact t_) | (dsimp only at t_ ⊢; exact t_) | (simp only [add_block] at t_ ⊢; exact t_)) _).trans (((cell_far (p := ⟨gb143, _, none⟩) (by have t_ := Nat.ne_of_lt (Nat.lt_of_lt_of_le (World.block_lt_of_cell? _ _ hw140_2) GW143.out); first | exact t_ | (rw [add_block] at t_; exact t_) | (rw [add_block] at t_ ⊢; exact t_) | (dsimp only at t_ ⊢; exact t_) | (simp only [add_block] at t_ ⊢; exact t_)) _).trans (((cell_far (p := ⟨gb143, _, none⟩) (by have t_ := Nat.ne_of_lt (Nat.lt_of_lt_of_le (World.block_lt_of_cell? _ _ hw140_2) GW143.out); first | exact t_ | (rw [add_block] at t_; exact t_) | (rw [add_block] at t_ ⊢; exact t_) | (dsimp only at t_ ⊢; exact t_) | (simp only [add_block] at t_ ⊢; exact t_)) _).trans (((cell_far (p := ⟨gb143, _, none⟩) (by have t_ := Nat.ne_of_lt (Nat.lt_of_lt_of_le (World.block_lt_of_cell? _ _ hw140_2) GW143.out); first | exact t_ | (rw [add_block] at t_; exact t_) | (rw [add_block] at t_ ⊢; exact t_) | (dsimp only at t_ ⊢; exact t_) | (simp only [add_block] at t_ ⊢; exact t_)) _).trans (hHeld.2.2.1)))))))), ((cell_far (p := ⟨gb143, _, none⟩) (by have t_ := Nat.ne_of_lt (Nat.lt_of_lt_of_le (World.block_lt_of_cell? _ _ hw140_3) GW143.out); first | exact t_ | (rw [add_block] at t_; exact t_) | (rw [add_block] at t_ ⊢; exact t_) | (dsimp only at t_ ⊢; exact t_) | (simp only [add_block] at t_ ⊢; exact t_)) _).trans (((cell_far (p := ⟨gb143, _, none⟩) (by have t_ := Nat.ne_of_lt (Nat.lt_of_lt_of_le (World.block_lt_of_cell? _ _ hw140_3) GW143.out); first | exact t_ | (rw [add_block] at t_; exact t_) | (rw [add_block] at t_ ⊢; exact t_) | (dsimp only at t_ ⊢; exact t_) | (simp only [add_block] at t_ ⊢; exact t_)) _).trans (((cell_far (p := ⟨gb143, _, none⟩) (by have t_ := Nat.ne_of_lt (Nat.lt_of_lt_of_le (World.block_lt_of_cell? _ _ hw140_3) GW143.out); first | exact t_ | (rw [add_block] at t_; exact t_) | (rw [add_block] at t_ ⊢; exact t_) | (dsimp only at t_ ⊢; exact t_) | (simp only [add_block] at t_ ⊢; exact t_)) _).trans (((cell_far (p := ⟨gb143, _, none⟩) (by have t_ := Nat.ne_of_lt (Nat.lt_of_lt_of_le (World.block_lt_of_cell? _ _ hw140_3) GW143.out); first | exact t_ | (rw [add_block] at t_; exact t_) | (rw [add_block] at t_ ⊢; exact t_) | (dsimp only at t_ ⊢; exact t_) | (simp only [add_block] at t_ ⊢; exact t_)) _).trans (hHeld.2.2.2.1)))))))), ((cell_far (p := ⟨gb143, _, none⟩) (by have t_ := Nat.ne_of_lt (Nat.lt_of_lt_of_le (World.block_lt_of_cell? _ _ hw141_0) GW143.out); first | exact t_ | (rw [add_block] at t_; exact t_) | (rw [add_block] at t_ ⊢; exact t_) | (dsimp only at t_ ⊢; exact t_) | (simp only [add_block] at t_ ⊢; exact t_)) _).trans (((cell_far (p := ⟨gb143, _, none⟩) (by have t_ := Nat.ne_of_lt (Nat.lt_of_lt_of_le (World.block_lt_of_cell? _ _ hw141_0) GW143.out); first | exact t_ | (rw [add_block] at t_; exact t_) | (rw [add_block] at t_ ⊢; exact t_) | (dsimp only at t_ ⊢; exact t_) | (simp only [add_block] at t_ ⊢; exact t_)) _).trans (((cell_far (p := ⟨gb143, _, none⟩) (by have t_ := Nat.ne_of_lt (Nat.lt_of_lt_of_le (World.block_lt_of_cell? _ _ hw141_0) GW143.out); first | exact t_ | (rw [add_block] at t_; exact t_) | (rw [add_block] at t_ ⊢; exact t_) | (dsimp only at t_ ⊢; exact t_) | (simp only [add_block] at t_ ⊢; exact t_)) _).trans (((cell_far (p := ⟨gb143, _, none⟩) (by have t_ := Nat.ne_of_lt (Nat.lt_of_lt_of_le (World.block_lt_of_cell? _ _ hw141_0) GW143.out); first | exact t_ | (rw [add_block] at t_; exact t_) | (rw [add_block] at t_ ⊢; exact t_) | (dsimp only at t_ ⊢; exact t_) | (simp only [add_block] at t_ ⊢; exact t_)) _).trans (hHeld.2.2.2.2.1)))))))), ((cell_far (p := ⟨gb143, _, none⟩) (by have t_ := Nat.ne_of_lt (Nat.lt_of_lt_of_le (World.block_lt_of_cell? _ _ hw141_1) GW143.out); first | exact t_ | (rw [add_block] at t_; exact t_) | (rw [add_block] at t_ ⊢; exact t_) | (dsimp only at t_ ⊢; exact t_) | (simp only [add_block] at t_ ⊢; exact t_)) _).trans (((cell_far (p := ⟨gb143, _, none⟩) (by have t_ := Nat.ne_of_lt (Nat.lt_of_lt_of_le (World.block_lt_of_cell? _ _ hw141_1) GW143.out); first | exact t_ | (rw [add_block] at t_; exact t_) | (rw [add_block] at t_ ⊢; exact t_) | (dsimp only at t_ ⊢; exact t_) | (simp only [add_block] at t_ ⊢; exact t_)) _).trans (((cell_far (p := ⟨gb143, _, none⟩) (by have t_ := Nat.ne_of_lt (Nat.lt_of_lt_of_le (World.block_lt_of_cell? _ _ hw141_1) GW143.out); first | exact t_ | (rw [add_block] at t_; exact t_) | (rw [add_block] at t_ ⊢; exact t_) | (dsimp only at t_ ⊢; exact t_) | (simp only [add_block] at t_ ⊢; exact t_)) _).trans (((cell_far (p := ⟨gb143, _, none⟩) (by have t_ := Nat.ne_of_lt (Nat.lt_of_lt_of_le (World.block_lt_of_cell? _ _ hw141_1) GW143.out); first | exact t_ | (rw [add_block] at t_; exact t_) | (rw [add_block] at t_ ⊢; exact t_) | (dsimp only at t_ ⊢; exact t_) | (simp only [add_block] at t_ ⊢; exact t_)) _).trans (hHeld.2.2.2.2.2.1)))))))), ((cell_far (p := ⟨gb143, _, none⟩) (by have t_ := Nat.ne_of_lt (Nat.lt_of_lt_of_le (World.block_lt_of_cell? _ _ hw141_2) GW143.out); first | exact t_ | (rw [add_block] at t_; exact t_) | (rw [add_block] at t_ ⊢; exact t_) | (dsimp only at t_ ⊢; exact t_) | (simp only [add_block] at t_ ⊢; exact t_)) _).trans (((cell_far (p := ⟨gb143, _, none⟩) (by have t_ := Nat.ne_of_lt (Nat.lt_of_lt_of_le (World.block_lt_of_cell? _ _ hw141_2) GW143.out); first | exact t_ | (rw [add_block] at t_; exact t_) | (rw [add_block] at t_ ⊢; exact t_) | (dsimp only at t_ ⊢; exact t_) | (simp only [add_block] at t_ ⊢; exact t_)) _).trans (((cell_far (p := ⟨gb143, _, none⟩) (by have t_ := Nat.ne_of_lt (Nat.lt_of_lt_of_le (World.block_lt_of_cell? _ _ hw141_2) GW143.out); first | exact t_ | (rw [add_block] at t_; exact t_) | (rw [add_block] at t_ ⊢; exact t_) | (dsimp only at t_ ⊢; exact t_) | (simp only [add_block] at t_ ⊢; exact t_)) _).trans (((cell_far (p := ⟨gb143, _, none⟩) (by have t_ := Nat.ne_of_lt (Nat.lt_of_lt_of_le (World.block_lt_of_cell? _ _ hw141_2) GW143.out); first | exact t_ | (rw [add_block] at t_; exact t_) | (rw [add_block] at t_ ⊢; exact t_) | (dsimp only at t_ ⊢; exact t_) | (simp only [add_block] at t_ ⊢; exact t_)) _).trans (hHeld.2.2.2.2.2.2.1)))))))), ((cell_far (p := ⟨gb143, _, none⟩) (by have t_ := Nat.ne_of_lt (Nat.lt_of_lt_of_le (World.block_lt_of_cell? _ _ hw141_3) GW143.out); first | exact t_ | (rw [add_block] at t_; exact t_) | (rw [add_block] at t_ ⊢; exact t_) | (dsimp only at t_ ⊢; exact t_) | (simp only [add_block] at t_ ⊢; exact t_)) _).trans (((cell_far (p := ⟨gb143, _, none⟩) (by have t_ := Nat.ne_of_lt (Nat.lt_of_lt_of_le (World.block_lt_of_cell? _ _ hw141_3) GW143.out); first | exact t_ | (rw [add_block] at t_; exact t_) | (rw [add_block] at t_ ⊢; exact t_) | (dsimp only at t_ ⊢; exact t_) | (simp only [add_block] at t_ ⊢; exact t_)) _).trans (((cell_far (p := ⟨gb143, _, none⟩) (by have t_ := Nat.ne_of_lt (Nat.lt_of_lt_of_le (World.block_lt_of_cell? _ _ hw141_3) GW143.out); first | exact t_ | (rw [add_block] at t_; exact t_) | (rw [add_block] at t_ ⊢; exact t_) | (dsimp only at t_ ⊢; exact t_) | (simp only [add_block] at t_ ⊢; exact t_)) _).trans (((cell_far (p := ⟨gb143, _, none⟩) (by have t_ := Nat.ne_of_lt (Nat.lt_of_lt_of_le (World.block_lt_of_cell? _ _ hw141_3) GW143.out); first | exact t_ | (rw [add_block] at t_; exact t_) | (rw [add_block] at t_ ⊢; exact t_) | (dsimp only at t_ ⊢; exact t_) | (simp only [add_block] at t_ ⊢; exact t_)) _).trans (hHeld.2.2.2.2.2.2.2))))))))⟩ (fun hHeld => ?_)
                clear hK K
                refine done_ (done_of HT_.out (by kernel_rfl)) ?_
                have hnb54 := NB142_143.out
                have hnc54 := NB143_142.out
                have hcz55_0 : w45.cell? ⟨gb142, 0, none⟩ = some (.int .i64 0) := (blk_cell BK142.out 0).trans rfl
                have hcz55_1 : w45.cell? ⟨gb142, 1, none⟩ = some (.int .i64 0) := (blk_cell BK142.out 1).trans rfl
                have hcz55_2 : w45.cell? ⟨gb142, 2, none⟩ = some (.int .i64 0) := (blk_cell BK142.out 2).trans rfl
                have hcz55_3 : w45.cell? ⟨gb142, 3, none⟩ = some (.int .i64 0) := (blk_cell BK142.out 3).trans rfl
                have hfz55_0 := blk_frozen BK142.out 0
                have hfz55_1 := blk_frozen BK142.out 1
                have hfz55_2 := blk_frozen BK142.out 2
                have hfz55_3 := blk_frozen BK142.out 3
                have hcz56_0 : w45.cell? ⟨gb143, 0, none⟩ = some (.int .i64 0) := (blk_cell BK143.out 0).trans rfl
                have hcz56_1 : w45.cell? ⟨gb143, 1, none⟩ = some (.int .i64 0) := (blk_cell BK143.out 1).trans rfl
                have hcz56_2 : w45.cell? ⟨gb143, 2, none⟩ = some (.int .i64 0) := (blk_cell BK143.out 2).trans rfl
                have hcz56_3 : w45.cell? ⟨gb143, 3, none⟩ = some (.int .i64 0) := (blk_cell BK143.out 3).trans rfl
                have hfz56_0 := blk_frozen BK143.out 0
                have hfz56_1 := blk_frozen BK143.out 1
                have hfz56_2 := blk_frozen BK143.out 2
                have hfz56_3 := blk_frozen BK143.out 3
                try go_wp2
                go_ret
                exact ⟨by first | rfl | (simp [errW_none, errW_some] <;> rfl) | (simp [*, errW_none, errW_some] <;> rfl), by repeat (first | (with_reducible first | exact HB.out | apply below_alloc | apply pw_below_drewN | apply below_drew1 | refine below_set ?_ GE142.out | refine below_set ?_ GE143.out) | exact HB.out)⟩
              · rw [if_neg c41] at H
                have c41b0 : (a1 == 3) = false := beq_eq_false_iff_ne.mpr c41
                have c41b1 : (a1 != 3) = true := bne_iff_ne.mpr c41
                obtain rfl := Option.some.inj H
                go_enter Try.func104, Try.ntmps104
                try go_wp2
                have n0_ := Aside0.mk (below_drew1 HB.out)
                clear HB
                have HB := n0_
                clear n0_
                have p140 : 0 ≤ (a2 : Int) := of_decide_eq_true (by first | (with_reducible assumption) | assumption)
                have q140 : a2 < (l0.length : Int) := of_decide_eq_true (by first | (with_reducible assumption) | assumption)
                obtain ⟨ad140, e140, hx140_0, hx140_1, hx140_2, hx140_3⟩ := at_T64 HR0.out a2 p140 q140
                have hw140_3 := hx140_3
                have hw140_2 := hx140_2
                have hw140_1 := hx140_1
                have hw140_0 := hx140_0
                cases e140
                replace hx140_0 := (HB.out.cell (World.block_lt_of_cell? w _ hx140_0)).trans hx140_0
                replace hx140_1 := (HB.out.cell (World.block_lt_of_cell? w _ hx140_1)).trans hx140_1
                replace hx140_2 := (HB.out.cell (World.block_lt_of_cell? w _ hx140_2)).trans hx140_2
                replace hx140_3 := (HB.out.cell (World.block_lt_of_cell? w _ hx140_3)).trans hx140_3
                replace p140 := eq_true p140
                replace q140 := eq_true q140
                have p141 : 0 ≤ (a3 : Int) := of_decide_eq_true (by first | (with_reducible assumption) | assumption)
                have q141 : a3 < (l0.length : Int) := of_decide_eq_true (by first | (with_reducible assumption) | assumption)
                obtain ⟨ad141, e141, hx141_0, hx141_1, hx141_2, hx141_3⟩ := at_T64 HR0.out a3 p141 q141
                have hw141_3 := hx141_3
                have hw141_2 := hx141_2
                have hw141_1 := hx141_1
                have hw141_0 := hx141_0
                obtain rfl : ad140 = ad141 := (by injection e141)
                replace hx141_0 := (HB.out.cell (World.block_lt_of_cell? w _ hx141_0)).trans hx141_0
                replace hx141_1 := (HB.out.cell (World.block_lt_of_cell? w _ hx141_1)).trans hx141_1
                replace hx141_2 := (HB.out.cell (World.block_lt_of_cell? w _ hx141_2)).trans hx141_2
                replace hx141_3 := (HB.out.cell (World.block_lt_of_cell? w _ hx141_3)).trans hx141_3
                replace p141 := eq_true p141
                replace q141 := eq_true q141
                refine start_ (n := 12) (S := fun w' => w'.cell? (ad140.add ((a2).toNat * 4)) = some (.int .i64 ((rd_T64 l0 a2).f0)) ∧ w'.cell? ⟨(ad140.add ((a2).toNat * 4)).block, (ad140.add ((a2).toNat * 4)).off + 1, none⟩ = some (.int .i64 ((rd_T64 l0 a2).f1)) ∧ w'.cell? ⟨(ad140.add ((a2).toNat * 4)).block, (ad140.add ((a2).toNat * 4)).off + 2, none⟩ = some (.int .i64 ((rd_T64 l0 a2).f2)) ∧ w'.cell? ⟨(ad140.add ((a2).toNat * 4)).block, (ad140.add ((a2).toNat * 4)).off + 3, none⟩ = some (.int .i64 ((rd_T64 l0 a2).f3)) ∧ w'.cell? (ad140.add ((a3).toNat * 4)) = some (.int .i64 ((rd_T64 l0 a3).f0)) ∧ w'.cell? ⟨(ad140.add ((a3).toNat * 4)).block, (ad140.add ((a3).toNat * 4)).off + 1, none⟩ = some (.int .i64 ((rd_T64 l0 a3).f1)) ∧ w'.cell? ⟨(ad140.add ((a3).toNat * 4)).block, (ad140.add ((a3).toNat * 4)).off + 2, none⟩ = some (.int .i64 ((rd_T64 l0 a3).f2)) ∧ w'.cell? ⟨(ad140.add ((a3).toNat * 4)).block, (ad140.add ((a3).toNat * 4)).off + 3, none⟩ = some (.int .i64 ((rd_T64 l0 a3).f3))) (ds := []) #[false, false, false, false, false, false, false, false, false, false, false, false] (by kernel_rfl) rfl rfl ⟨((HB.out.cell (World.block_lt_of_cell? w _ hw140_0)).trans hw140_0), ((HB.out.cell (World.block_lt_of_cell? w _ hw140_1)).trans hw140_1), ((HB.out.cell (World.block_lt_of_cell? w _ hw140_2)).trans hw140_2), ((HB.out.cell (World.block_lt_of_cell? w _ hw140_3)).trans hw140_3), ((HB.out.cell (World.block_lt_of_cell? w _ hw141_0)).trans hw141_0), ((HB.out.cell (World.block_lt_of_cell? w _ hw141_1)).trans hw141_1), ((HB.out.cell (World.block_lt_of_cell? w _ hw141_2)).trans hw141_2), ((HB.out.cell (World.block_lt_of_cell? w _ hw141_3)).trans hw141_3)⟩ (fun hHeld => ?_); refine with_tabW spec_l3Gap.tab1 spec_l3Gap.bits1 (fun HT_ HW_ => ?_)
                generalize w.drew = w57 at HB hx140_0 hx140_1 hx140_2 hx140_3 hx141_0 hx141_1 hx141_2 hx141_3 hHeld ⊢
                refine pure_ (i := 0) (N := some 11) (v := ?_) (a' := ?_) #[true, false, false, false, false, false, false, false, false, false, false, false] rfl rfl (any_of HT_.out (by kernel_rfl)) (fun _ _ _ h => h) (Or.inl ⟨by rfl, ?_⟩) ?_ ?_
                rotate_left
                · intro w'
                  go_simp
                  with_reducible rfl
                rotate_left
                · simp only [Act.put, List.setIfInBounds_toArray, List.set_cons_zero, List.set_cons_succ, i64_w, i32_w]
                  rfl
                refine pure_ (i := 1) (N := some 12) (v := ?_) (a' := ?_) #[true, true, false, false, false, false, false, false, false, false, false, false] rfl rfl (any_of HT_.out (by kernel_rfl)) (fun _ _ _ h => h) (Or.inl ⟨by rfl, ?_⟩) ?_ ?_
                rotate_left
                · intro w'
                  go_simp
                  with_reducible rfl
                rotate_left
                · simp only [Act.put, List.setIfInBounds_toArray, List.set_cons_zero, List.set_cons_succ, i64_w, i32_w]
                  rfl
                refine pure_ (i := 2) (N := some 13) (v := ?_) (a' := ?_) #[true, true, true, false, false, false, false, false, false, false, false, false] rfl rfl (any_of HT_.out (by kernel_rfl)) (fun _ _ _ h => h) (Or.inl ⟨by rfl, ?_⟩) ?_ ?_
                rotate_left
                · intro w'
                  go_simp
                  with_reducible rfl
                rotate_left
                · simp only [Act.put, List.setIfInBounds_toArray, List.set_cons_zero, List.set_cons_succ, i64_w, i32_w]
                  rfl
                refine pure_ (i := 4) (N := some 15) (v := ?_) (a' := ?_) #[true, true, true, false, true, false, false, false, false, false, false, false] rfl rfl (any_of HT_.out (by kernel_rfl)) (fun _ _ _ h => h) (Or.inl ⟨by rfl, ?_⟩) ?_ ?_
                rotate_left
                · intro w'
                  go_simp
                  with_reducible rfl
                rotate_left
                · simp only [Act.put, List.setIfInBounds_toArray, List.set_cons_zero, List.set_cons_succ, i64_w, i32_w]
                  rfl
                refine pure_ (i := 5) (N := some 16) (v := ?_) (a' := ?_) #[true, true, true, false, true, true, false, false, false, false, false, false] rfl rfl (any_of HT_.out (by kernel_rfl)) (fun _ _ _ h => h) (Or.inl ⟨by rfl, ?_⟩) ?_ ?_
                rotate_left
                · intro w'
                  go_simp
                  with_reducible rfl
                rotate_left
                · simp only [Act.put, List.setIfInBounds_toArray, List.set_cons_zero, List.set_cons_succ, i64_w, i32_w]
                  rfl
                refine pure_ (i := 6) (N := some 17) (v := ?_) (a' := ?_) #[true, true, true, false, true, true, true, false, false, false, false, false] rfl rfl (any_of HT_.out (by kernel_rfl)) (fun _ _ _ h => h) (Or.inl ⟨by rfl, ?_⟩) ?_ ?_
                rotate_left
                · intro w'
                  go_simp
                  with_reducible rfl
                rotate_left
                · simp only [Act.put, List.setIfInBounds_toArray, List.set_cons_zero, List.set_cons_succ, i64_w, i32_w]
                  rfl
                refine take_ (i := 3) (N := some 14) (v := ?_) (a' := ?_) #[true, true, true, true, true, true, true, false, false, false, false, false] rfl rfl (take_ofW HT_.out HW_.out (by kernel_rfl)) (fun _ _ _ h => h) (Or.inl ⟨by rfl, ?_⟩) hHeld ?_ ?_
                rotate_left
                · rintro w' ⟨s0, s1, s2, s3, s4, s5, s6, s7⟩
                  go_simp
                  with_reducible rfl
                rotate_left
                · simp only [Act.put, List.setIfInBounds_toArray, List.set_cons_zero, List.set_cons_succ, i64_w, i32_w]
                  rfl
                refine take_ (i := 7) (N := some 18) (v := ?_) (a' := ?_) #[true, true, true, true, true, true, true, true, false, false, false, false] rfl rfl (take_ofW HT_.out HW_.out (by kernel_rfl)) (fun _ _ _ h => h) (Or.inl ⟨by rfl, ?_⟩) hHeld ?_ ?_
                rotate_left
                · rintro w' ⟨s0, s1, s2, s3, s4, s5, s6, s7⟩
                  go_simp
                  with_reducible rfl
                rotate_left
                · simp only [Act.put, List.setIfInBounds_toArray, List.set_cons_zero, List.set_cons_succ, i64_w, i32_w]
                  rfl
                refine join_ (σ := Nat × Nat) 2 #[true, true, true, true, true, true, true, true, true, true, false, false] (fun s_ => [(9, .pointer (some ⟨s_.1, 0, none⟩)), (10, .pointer (some ⟨s_.2, 0, none⟩))]) (fun s_ w' => (w'.cell? (ad140.add ((a2).toNat * 4)) = some (.int .i64 ((rd_T64 l0 a2).f0)) ∧ w'.cell? ⟨(ad140.add ((a2).toNat * 4)).block, (ad140.add ((a2).toNat * 4)).off + 1, none⟩ = some (.int .i64 ((rd_T64 l0 a2).f1)) ∧ w'.cell? ⟨(ad140.add ((a2).toNat * 4)).block, (ad140.add ((a2).toNat * 4)).off + 2, none⟩ = some (.int .i64 ((rd_T64 l0 a2).f2)) ∧ w'.cell? ⟨(ad140.add ((a2).toNat * 4)).block, (ad140.add ((a2).toNat * 4)).off + 3, none⟩ = some (.int .i64 ((rd_T64 l0 a2).f3)) ∧ w'.cell? (ad140.add ((a3).toNat * 4)) = some (.int .i64 ((rd_T64 l0 a3).f0)) ∧ w'.cell? ⟨(ad140.add ((a3).toNat * 4)).block, (ad140.add ((a3).toNat * 4)).off + 1, none⟩ = some (.int .i64 ((rd_T64 l0 a3).f1)) ∧ w'.cell? ⟨(ad140.add ((a3).toNat * 4)).block, (ad140.add ((a3).toNat * 4)).off + 2, none⟩ = some (.int .i64 ((rd_T64 l0 a3).f2)) ∧ w'.cell? ⟨(ad140.add ((a3).toNat * 4)).block, (ad140.add ((a3).toNat * 4)).off + 3, none⟩ = some (.int .i64 ((rd_T64 l0 a3).f3))) ∧ (w'.heap[s_.1]? = some (.cells #[.int .i64 0, .int .i64 0, .int .i64 0, .int .i64 0] 64 (0, 0))) ∧ (w'.heap[s_.2]? = some (.cells #[.int .i64 0, .int .i64 0, .int .i64 0, .int .i64 0] 64 (0, 0))) ∧ (w.heap.size ≤ s_.1) ∧ (w.heap.size ≤ s_.1) ∧ (s_.2 ≠ s_.1) ∧ (s_.1 ≠ s_.2) ∧ (w.heap.size ≤ s_.2) ∧ (w.heap.size ≤ s_.2) ∧ (Below w.heap.size w w')) ?_ ?_
                rotate_left
                · intro hCont
                  refine two_ (i := 8) (j := 9) (Ni := some 9) (Nj := some 10) #[true, true, true, true, true, true, true, true, true, false, false, false] #[true, true, true, true, true, true, true, true, false, true, false, false] rfl rfl rfl rfl (two_of HT_.out (by kernel_rfl)) (by decide) (by decide) (fun K hK => ?_) (fun K hK => ?_)
                  · skip
                    refine box_step ?hg (N := 9) ?hd (cs := #[.int .i64 0, .int .i64 0, .int .i64 0, .int .i64 0]) (t := 64) ?hr ?_; (case hd => rfl); (case hg => rfl); (case hr => first | (go_simp; done) | (go_simp; rfl))
                    intro gb142 hg w58 hbox hb
                    have n0_ := Aside0.mk (below_step (by repeat (first | (with_reducible first | exact HB.out | apply below_alloc | apply pw_below_drewN | apply below_drew1) | exact HB.out)) hb)
                    have n1_ := Aside0.mk (hbox)
                    have n2_ := Aside0.mk ((by rw [hg]; exact (below_size (by repeat (first | (with_reducible first | exact HB.out | apply below_alloc | apply pw_below_drewN | apply below_drew1) | exact HB.out))) : w.heap.size ≤ gb142))
                    have n3_ := Aside0.mk ((by rw [hg]; exact (below_size (by repeat (first | (with_reducible first | exact HB.out | apply below_alloc | apply pw_below_drewN | apply below_drew1) | exact HB.out))) : w.heap.size ≤ gb142))
                    clear HB
                    have HB := n0_
                    have BK142 := n1_
                    have GW142 := n2_
                    have GE142 := n3_
                    clear n0_ n1_ n2_ n3_
                    clear hb hbox hg
                    refine hK.out _ _ ⟨((HB.out.cell (World.block_lt_of_cell? w _ hw140_0)).trans hw140_0), ((HB.out.cell (World.block_lt_of_cell? w _ hw140_1)).trans hw140_1), ((HB.out.cell (World.block_lt_of_cell? w _ hw140_2)).trans hw140_2), ((HB.out.cell (World.block_lt_of_cell? w _ hw140_3)).trans hw140_3), ((HB.out.cell (World.block_lt_of_cell? w _ hw141_0)).trans hw141_0), ((HB.out.cell (World.block_lt_of_cell? w _ hw141_1)).trans hw141_1), ((HB.out.cell (World.block_lt_of_cell? w _ hw141_2)).trans hw141_2), ((HB.out.cell (World.block_lt_of_cell? w _ hw141_3)).trans hw141_3)⟩ (fun hHeld => ?_)
                    clear hK K
                    refine norm_ (a' := ?_) ?_ ?_
                    rotate_left
                    · show Act.put _ (some 9) _ = _
                      simp only [Act.put, List.setIfInBounds_toArray, List.set_cons_zero, List.set_cons_succ, i64_w, i32_w]
                      rfl
                    refine one_ (i := 9) (N := some 10) #[true, true, true, true, true, true, true, true, true, true, false, false] rfl rfl (one_of HT_.out (by kernel_rfl)) (by decide) (fun K hK => ?_)
                    refine box_step ?hg (N := 10) ?hd (cs := #[.int .i64 0, .int .i64 0, .int .i64 0, .int .i64 0]) (t := 64) ?hr ?_; (case hd => rfl); (case hg => rfl); (case hr => first | (go_simp; done) | (go_simp; rfl))
                    intro gb143 hg w59 hbox hb
                    have n0_ := Aside0.mk (blk_below (g := gb142) (o := .cells #[.int .i64 0, .int .i64 0, .int .i64 0, .int .i64 0] 64 (0, 0)) (by (with_reducible repeat (first | refine blk_drewN ?_ _ | refine blk_drew ?_ | refine blk_alloc ?_ _)); exact BK142.out) hb)
                    have n1_ := Aside0.mk (below_step (by repeat (first | (with_reducible first | exact HB.out | apply below_alloc | apply pw_below_drewN | apply below_drew1 | refine below_set ?_ GE142.out) | exact HB.out)) hb)
                    have n2_ := Aside0.mk (hbox)
                    have n3_ := Aside0.mk ((by rw [hg]; exact (below_size (by repeat (first | (with_reducible first | exact HB.out | apply below_alloc | apply pw_below_drewN | apply below_drew1 | refine below_set ?_ GE142.out) | exact HB.out))) : w.heap.size ≤ gb143))
                    have n4_ := Aside0.mk ((by rw [hg]; exact (below_size (by repeat (first | (with_reducible first | exact HB.out | apply below_alloc | apply pw_below_drewN | apply below_drew1 | refine below_set ?_ GE142.out) | exact HB.out))) : w.heap.size ≤ gb143))
                    have n5_ := Aside0.mk ((by rw [hg]; exact Nat.ne_of_lt (blk_lt (g := gb142) (o := .cells #[.int .i64 0, .int .i64 0, .int .i64 0, .int .i64 0] 64 (0, 0)) (by (with_reducible repeat (first | refine blk_drewN ?_ _ | refine blk_drew ?_ | refine blk_alloc ?_ _)); exact BK142.out)) : gb142 ≠ gb143))
                    have n6_ := Aside0.mk ((by rw [hg]; exact Nat.ne_of_gt (blk_lt (g := gb142) (o := .cells #[.int .i64 0, .int .i64 0, .int .i64 0, .int .i64 0] 64 (0, 0)) (by (with_reducible repeat (first | refine blk_drewN ?_ _ | refine blk_drew ?_ | refine blk_alloc ?_ _)); exact BK142.out)) : gb143 ≠ gb142))
                    clear BK142
                    clear HB
                    have BK142 := n0_
                    have HB := n1_
                    have BK143 := n2_
                    have GW143 := n3_
                    have GE143 := n4_
                    have NB142_143 := n5_
                    have NB143_142 := n6_
                    clear n0_ n1_ n2_ n3_ n4_ n5_ n6_
                    clear hb hbox hg
                    refine hK.out _ _ ⟨((HB.out.cell (World.block_lt_of_cell? w _ hw140_0)).trans hw140_0), ((HB.out.cell (World.block_lt_of_cell? w _ hw140_1)).trans hw140_1), ((HB.out.cell (World.block_lt_of_cell? w _ hw140_2)).trans hw140_2), ((HB.out.cell (World.block_lt_of_cell? w _ hw140_3)).trans hw140_3), ((HB.out.cell (World.block_lt_of_cell? w _ hw141_0)).trans hw141_0), ((HB.out.cell (World.block_lt_of_cell? w _ hw141_1)).trans hw141_1), ((HB.out.cell (World.block_lt_of_cell? w _ hw141_2)).trans hw141_2), ((HB.out.cell (World.block_lt_of_cell? w _ hw141_3)).trans hw141_3)⟩ (fun hHeld => ?_)
                    clear hK K
                    refine norm_ (a' := ?_) ?_ ?_
                    rotate_left
                    · show Act.put _ (some 10) _ = _
                      simp only [Act.put, List.setIfInBounds_toArray, List.set_cons_zero, List.set_cons_succ, i64_w, i32_w]
                      rfl
                    exact norm_ (by simp only [putAll, Act.put, List.setIfInBounds_toArray, List.set_cons_zero, List.set_cons_succ]) (hCont (gb142, gb143) _ ⟨hHeld, (by (with_reducible repeat (first | refine blk_drewN ?_ _ | refine blk_drew ?_ | refine blk_alloc ?_ _)); exact BK142.out), (by (with_reducible repeat (first | refine blk_drewN ?_ _ | refine blk_drew ?_ | refine blk_alloc ?_ _)); exact BK143.out), GW142.out, GE142.out, NB143_142.out, NB142_143.out, GW143.out, GE143.out, (by repeat (first | (with_reducible first | exact HB.out | apply below_alloc | apply pw_below_drewN | apply below_drew1 | refine below_set ?_ GE142.out | refine below_set ?_ GE143.out) | exact HB.out))⟩)
                  · skip
                    refine box_step ?hg (N := 10) ?hd (cs := #[.int .i64 0, .int .i64 0, .int .i64 0, .int .i64 0]) (t := 64) ?hr ?_; (case hd => rfl); (case hg => rfl); (case hr => first | (go_simp; done) | (go_simp; rfl))
                    intro gb143 hg w58 hbox hb
                    have n0_ := Aside0.mk (below_step (by repeat (first | (with_reducible first | exact HB.out | apply below_alloc | apply pw_below_drewN | apply below_drew1) | exact HB.out)) hb)
                    have n1_ := Aside0.mk (hbox)
                    have n2_ := Aside0.mk ((by rw [hg]; exact (below_size (by repeat (first | (with_reducible first | exact HB.out | apply below_alloc | apply pw_below_drewN | apply below_drew1) | exact HB.out))) : w.heap.size ≤ gb143))
                    have n3_ := Aside0.mk ((by rw [hg]; exact (below_size (by repeat (first | (with_reducible first | exact HB.out | apply below_alloc | apply pw_below_drewN | apply below_drew1) | exact HB.out))) : w.heap.size ≤ gb143))
                    clear HB
                    have HB := n0_
                    have BK143 := n1_
                    have GW143 := n2_
                    have GE143 := n3_
                    clear n0_ n1_ n2_ n3_
                    clear hb hbox hg
                    refine hK.out _ _ ⟨((HB.out.cell (World.block_lt_of_cell? w _ hw140_0)).trans hw140_0), ((HB.out.cell (World.block_lt_of_cell? w _ hw140_1)).trans hw140_1), ((HB.out.cell (World.block_lt_of_cell? w _ hw140_2)).trans hw140_2), ((HB.out.cell (World.block_lt_of_cell? w _ hw140_3)).trans hw140_3), ((HB.out.cell (World.block_lt_of_cell? w _ hw141_0)).trans hw141_0), ((HB.out.cell (World.block_lt_of_cell? w _ hw141_1)).trans hw141_1), ((HB.out.cell (World.block_lt_of_cell? w _ hw141_2)).trans hw141_2), ((HB.out.cell (World.block_lt_of_cell? w _ hw141_3)).trans hw141_3)⟩ (fun hHeld => ?_)
                    clear hK K
                    refine norm_ (a' := ?_) ?_ ?_
                    rotate_left
                    · show Act.put _ (some 10) _ = _
                      simp only [Act.put, List.setIfInBounds_toArray, List.set_cons_zero, List.set_cons_succ, i64_w, i32_w]
                      rfl
                    refine one_ (i := 8) (N := some 9) #[true, true, true, true, true, true, true, true, true, true, false, false] rfl rfl (one_of HT_.out (by kernel_rfl)) (by decide) (fun K hK => ?_)
                    refine box_step ?hg (N := 9) ?hd (cs := #[.int .i64 0, .int .i64 0, .int .i64 0, .int .i64 0]) (t := 64) ?hr ?_; (case hd => rfl); (case hg => rfl); (case hr => first | (go_simp; done) | (go_simp; rfl))
                    intro gb142 hg w59 hbox hb
                    have n0_ := Aside0.mk (blk_below (g := gb143) (o := .cells #[.int .i64 0, .int .i64 0, .int .i64 0, .int .i64 0] 64 (0, 0)) (by (with_reducible repeat (first | refine blk_drewN ?_ _ | refine blk_drew ?_ | refine blk_alloc ?_ _)); exact BK143.out) hb)
                    have n1_ := Aside0.mk (below_step (by repeat (first | (with_reducible first | exact HB.out | apply below_alloc | apply pw_below_drewN | apply below_drew1 | refine below_set ?_ GE143.out) | exact HB.out)) hb)
                    have n2_ := Aside0.mk (hbox)
                    have n3_ := Aside0.mk ((by rw [hg]; exact (below_size (by repeat (first | (with_reducible first | exact HB.out | apply below_alloc | apply pw_below_drewN | apply below_drew1 | refine below_set ?_ GE143.out) | exact HB.out))) : w.heap.size ≤ gb142))
                    have n4_ := Aside0.mk ((by rw [hg]; exact (below_size (by repeat (first | (with_reducible first | exact HB.out | apply below_alloc | apply pw_below_drewN | apply below_drew1 | refine below_set ?_ GE143.out) | exact HB.out))) : w.heap.size ≤ gb142))
                    have n5_ := Aside0.mk ((by rw [hg]; exact Nat.ne_of_lt (blk_lt (g := gb143) (o := .cells #[.int .i64 0, .int .i64 0, .int .i64 0, .int .i64 0] 64 (0, 0)) (by (with_reducible repeat (first | refine blk_drewN ?_ _ | refine blk_drew ?_ | refine blk_alloc ?_ _)); exact BK143.out)) : gb143 ≠ gb142))
                    have n6_ := Aside0.mk ((by rw [hg]; exact Nat.ne_of_gt (blk_lt (g := gb143) (o := .cells #[.int .i64 0, .int .i64 0, .int .i64 0, .int .i64 0] 64 (0, 0)) (by (with_reducible repeat (first | refine blk_drewN ?_ _ | refine blk_drew ?_ | refine blk_alloc ?_ _)); exact BK143.out)) : gb142 ≠ gb143))
                    clear BK143
                    clear HB
                    have BK143 := n0_
                    have HB := n1_
                    have BK142 := n2_
                    have GW142 := n3_
                    have GE142 := n4_
                    have NB143_142 := n5_
                    have NB142_143 := n6_
                    clear n0_ n1_ n2_ n3_ n4_ n5_ n6_
                    clear hb hbox hg
                    refine hK.out _ _ ⟨((HB.out.cell (World.block_lt_of_cell? w _ hw140_0)).trans hw140_0), ((HB.out.cell (World.block_lt_of_cell? w _ hw140_1)).trans hw140_1), ((HB.out.cell (World.block_lt_of_cell? w _ hw140_2)).trans hw140_2), ((HB.out.cell (World.block_lt_of_cell? w _ hw140_3)).trans hw140_3), ((HB.out.cell (World.block_lt_of_cell? w _ hw141_0)).trans hw141_0), ((HB.out.cell (World.block_lt_of_cell? w _ hw141_1)).trans hw141_1), ((HB.out.cell (World.block_lt_of_cell? w _ hw141_2)).trans hw141_2), ((HB.out.cell (World.block_lt_of_cell? w _ hw141_3)).trans hw141_3)⟩ (fun hHeld => ?_)
                    clear hK K
                    refine norm_ (a' := ?_) ?_ ?_
                    rotate_left
                    · show Act.put _ (some 9) _ = _
                      simp only [Act.put, List.setIfInBounds_toArray, List.set_cons_zero, List.set_cons_succ, i64_w, i32_w]
                      rfl
                    exact norm_ (by simp only [putAll, Act.put, List.setIfInBounds_toArray, List.set_cons_zero, List.set_cons_succ]) (hCont (gb142, gb143) _ ⟨hHeld, (by (with_reducible repeat (first | refine blk_drewN ?_ _ | refine blk_drew ?_ | refine blk_alloc ?_ _)); exact BK142.out), (by (with_reducible repeat (first | refine blk_drewN ?_ _ | refine blk_drew ?_ | refine blk_alloc ?_ _)); exact BK143.out), GW142.out, GE142.out, NB143_142.out, NB142_143.out, GW143.out, GE143.out, (by repeat (first | (with_reducible first | exact HB.out | apply below_alloc | apply pw_below_drewN | apply below_drew1 | refine below_set ?_ GE143.out | refine below_set ?_ GE142.out) | exact HB.out))⟩)
                rintro ⟨gb142, gb143⟩ w60 ⟨hS_, h0_, h1_, h2_, h3_, h4_, h5_, h6_, h7_, h8_⟩
                have n0_ : Aside0 (w60.heap[gb142]? = some (.cells #[.int .i64 0, .int .i64 0, .int .i64 0, .int .i64 0] 64 (0, 0))) := ⟨h0_⟩
                have n1_ : Aside0 (w60.heap[gb143]? = some (.cells #[.int .i64 0, .int .i64 0, .int .i64 0, .int .i64 0] 64 (0, 0))) := ⟨h1_⟩
                have n2_ : Aside0 (w.heap.size ≤ gb142) := ⟨h2_⟩
                have n3_ : Aside0 (w.heap.size ≤ gb142) := ⟨h3_⟩
                have n4_ : Aside0 (gb143 ≠ gb142) := ⟨h4_⟩
                have n5_ : Aside0 (gb142 ≠ gb143) := ⟨h5_⟩
                have n6_ : Aside0 (w.heap.size ≤ gb143) := ⟨h6_⟩
                have n7_ : Aside0 (w.heap.size ≤ gb143) := ⟨h7_⟩
                have n8_ : Aside0 (Below w.heap.size w w60) := ⟨h8_⟩
                clear HB
                clear h0_ h1_ h2_ h3_ h4_ h5_ h6_ h7_ h8_
                have BK142 := n0_
                have BK143 := n1_
                have GW142 := n2_
                have GE142 := n3_
                have NB143_142 := n4_
                have NB142_143 := n5_
                have GW143 := n6_
                have GE143 := n7_
                have HB := n8_
                clear n0_ n1_ n2_ n3_ n4_ n5_ n6_ n7_ n8_
                have hHeld : w60.cell? (ad140.add ((a2).toNat * 4)) = some (.int .i64 ((rd_T64 l0 a2).f0)) ∧ w60.cell? ⟨(ad140.add ((a2).toNat * 4)).block, (ad140.add ((a2).toNat * 4)).off + 1, none⟩ = some (.int .i64 ((rd_T64 l0 a2).f1)) ∧ w60.cell? ⟨(ad140.add ((a2).toNat * 4)).block, (ad140.add ((a2).toNat * 4)).off + 2, none⟩ = some (.int .i64 ((rd_T64 l0 a2).f2)) ∧ w60.cell? ⟨(ad140.add ((a2).toNat * 4)).block, (ad140.add ((a2).toNat * 4)).off + 3, none⟩ = some (.int .i64 ((rd_T64 l0 a2).f3)) ∧ w60.cell? (ad140.add ((a3).toNat * 4)) = some (.int .i64 ((rd_T64 l0 a3).f0)) ∧ w60.cell? ⟨(ad140.add ((a3).toNat * 4)).block, (ad140.add ((a3).toNat * 4)).off + 1, none⟩ = some (.int .i64 ((rd_T64 l0 a3).f1)) ∧ w60.cell? ⟨(ad140.add ((a3).toNat * 4)).block, (ad140.add ((a3).toNat * 4)).off + 2, none⟩ = some (.int .i64 ((rd_T64 l0 a3).f2)) ∧ w60.cell? ⟨(ad140.add ((a3).toNat * 4)).block, (ad140.add ((a3).toNat * 4)).off + 3, none⟩ = some (.int .i64 ((rd_T64 l0 a3).f3)) := hS_
                refine norm_ (a' := ?_) ?_ ?_
                rotate_left
                · simp only [putAll, Act.put, List.setIfInBounds_toArray, List.set_cons_zero, List.set_cons_succ]
                  rfl
                refine one_ (i := 10) (N := none) #[true, true, true, true, true, true, true, true, true, true, true, false] rfl rfl (one_of HT_.out (by kernel_rfl)) (by decide) (fun K hK => ?_)
                have hs61 : w60.cell? ⟨gb142, 0, none⟩ = some (.int .i64 0) := (blk_cell BK142.out 0).trans rfl
                have hfs61 := blk_frozen BK142.out 0
                have hns61_1 := NB143_142.out
                have hms61_1 := NB142_143.out
                have hs62 : w60.cell? ⟨gb142, 1, none⟩ = some (.int .i64 0) := (blk_cell BK142.out 1).trans rfl
                have hfs62 := blk_frozen BK142.out 1
                have hns62_1 := NB143_142.out
                have hms62_1 := NB142_143.out
                have hs63 : w60.cell? ⟨gb142, 2, none⟩ = some (.int .i64 0) := (blk_cell BK142.out 2).trans rfl
                have hfs63 := blk_frozen BK142.out 2
                have hns63_1 := NB143_142.out
                have hms63_1 := NB142_143.out
                have hs64 : w60.cell? ⟨gb142, 3, none⟩ = some (.int .i64 0) := (blk_cell BK142.out 3).trans rfl
                have hfs64 := blk_frozen BK142.out 3
                have hns64_1 := NB143_142.out
                have hms64_1 := NB142_143.out
                refine skip_ (w1 := ?_) (by rfl) rfl ?_ ?_
                rotate_left
                · go_simp
                  rfl
                refine hK.out _ _ ⟨((cell_far (p := ⟨gb142, _, none⟩) (by have t_ := Nat.ne_of_lt (Nat.lt_of_lt_of_le (World.block_lt_of_cell? _ _ hw140_0) GW142.out); first | exact t_ | (rw [add_block] at t_; exact t_) | (rw [add_block] at t_ ⊢; exact t_) | (dsimp only at t_ ⊢; exact t_) | (simp only [add_block] at t_ ⊢; exact t_)) _).trans (((cell_far (p := ⟨gb142, _, none⟩) (by have t_ := Nat.ne_of_lt (Nat.lt_of_lt_of_le (World.block_lt_of_cell? _ _ hw140_0) GW142.out); first | exact t_ | (rw [add_block] at t_; exact t_) | (rw [add_block] at t_ ⊢; exact t_) | (dsimp only at t_ ⊢; exact t_) | (simp only [add_block] at t_ ⊢; exact t_)) _).trans (((cell_far (p := ⟨gb142, _, none⟩) (by have t_ := Nat.ne_of_lt (Nat.lt_of_lt_of_le (World.block_lt_of_cell? _ _ hw140_0) GW142.out); first | exact t_ | (rw [add_block] at t_; exact t_) | (rw [add_block] at t_ ⊢; exact t_) | (dsimp only at t_ ⊢; exact t_) | (simp only [add_block] at t_ ⊢; exact t_)) _).trans (((cell_far (p := ⟨gb142, _, none⟩) (by have t_ := Nat.ne_of_lt (Nat.lt_of_lt_of_le (World.block_lt_of_cell? _ _ hw140_0) GW142.out); first | exact t_ | (rw [add_block] at t_; exact t_) | (rw [add_block] at t_ ⊢; exact t_) | (dsimp only at t_ ⊢; exact t_) | (simp only [add_block] at t_ ⊢; exact t_)) _).trans (hHeld.1)))))))), ((cell_far (p := ⟨gb142, _, none⟩) (by have t_ := Nat.ne_of_lt (Nat.lt_of_lt_of_le (World.block_lt_of_cell? _ _ hw140_1) GW142.out); first | exact t_ | (rw [add_block] at t_; exact t_) | (rw [add_block] at t_ ⊢; exact t_) | (dsimp only at t_ ⊢; exact t_) | (simp only [add_block] at t_ ⊢; exact t_)) _).trans (((cell_far (p := ⟨gb142, _, none⟩) (by have t_ := Nat.ne_of_lt (Nat.lt_of_lt_of_le (World.block_lt_of_cell? _ _ hw140_1) GW142.out); first | exact t_ | (rw [add_block] at t_; exact t_) | (rw [add_block] at t_ ⊢; exact t_) | (dsimp only at t_ ⊢; exact t_) | (simp only [add_block] at t_ ⊢; exact t_)) _).trans (((cell_far (p := ⟨gb142, _, none⟩) (by have t_ := Nat.ne_of_lt (Nat.lt_of_lt_of_le (World.block_lt_of_cell? _ _ hw140_1) GW142.out); first | exact t_ | (rw [add_block] at t_; exact t_) | (rw [add_block] at t_ ⊢; exact t_) | (dsimp only at t_ ⊢; exact t_) | (simp only [add_block] at t_ ⊢; exact t_)) _).trans (((cell_far (p := ⟨gb142, _, none⟩) (by have t_ := Nat.ne_of_lt (Nat.lt_of_lt_of_le (World.block_lt_of_cell? _ _ hw140_1) GW142.out); first | exact t_ | (rw [add_block] at t_; exact t_) | (rw [add_block] at t_ ⊢; exact t_) | (dsimp only at t_ ⊢; exact t_) | (simp only [add_block] at t_ ⊢; exact t_)) _).trans (hHeld.2.1)))))))), ((cell_far (p := ⟨gb142, _, none⟩) (by have t_ := Nat.ne_of_lt (Nat.lt_of_lt_of_le (World.block_lt_of_cell? _ _ hw140_2) GW142.out); first | exact t_ | (rw [add_block] at t_; exact t_) | (rw [add_block] at t_ ⊢; exact t_) | (dsimp only at t_ ⊢; exact t_) | (simp only [add_block] at t_ ⊢; exact t_)) _).trans (((cell_far (p := ⟨gb142, _, none⟩) (by have t_ := Nat.ne_of_lt (Nat.lt_of_lt_of_le (World.block_lt_of_cell? _ _ hw140_2) GW142.out); first | exact t_ | (rw [add_block] at t_; exact t_) | (rw [add_block] at t_ ⊢; exact t_) | (dsimp only at t_ ⊢; exact t_) | (simp only [add_block] at t_ ⊢; exact t_)) _).trans (((cell_far (p := ⟨gb142, _, none⟩) (by have t_ := Nat.ne_of_lt (Nat.lt_of_lt_of_le (World.block_lt_of_cell? _ _ hw140_2) GW142.out); first | exact t_ | (rw [add_block] at t_; exact t_) | (rw [add_block] at t_ ⊢; exact t_) | (dsimp only at t_ ⊢; exact t_) | (simp only [add_block] at t_ ⊢; exact t_)) _).trans (((cell_far (p := ⟨gb142, _, none⟩) (by have t_ := Nat.ne_of_lt (Nat.lt_of_lt_of_le (World.block_lt_of_cell? _ _ hw140_2) GW142.out); first | exact t_ | (rw [add_block] at t_; exact t_) | (rw [add_block] at t_ ⊢; exact t_) | (dsimp only at t_ ⊢; exact t_) | (simp only [add_block] at t_ ⊢; exact t_)) _).trans (hHeld.2.2.1)))))))), ((cell_far (p := ⟨gb142, _, none⟩) (by have t_ := Nat.ne_of_lt (Nat.lt_of_lt_of_le (World.block_lt_of_cell? _ _ hw140_3) GW142.out); first | exact t_ | (rw [add_block] at t_; exact t_) | (rw [add_block] at t_ ⊢; exact t_) | (dsimp only at t_ ⊢; exact t_) | (simp only [add_block] at t_ ⊢; exact t_)) _).trans (((cell_far (p := ⟨gb142, _, none⟩) (by have t_ := Nat.ne_of_lt (Nat.lt_of_lt_of_le (World.block_lt_of_cell? _ _ hw140_3) GW142.out); first | exact t_ | (rw [add_block] at t_; exact t_) | (rw [add_block] at t_ ⊢; exact t_) | (dsimp only at t_ ⊢; exact t_) | (simp only [add_block] at t_ ⊢; exact t_)) _).trans (((cell_far (p := ⟨gb142, _, none⟩) (by have t_ := Nat.ne_of_lt (Nat.lt_of_lt_of_le (World.block_lt_of_cell? _ _ hw140_3) GW142.out); first | exact t_ | (rw [add_block] at t_; exact t_) | (rw [add_block] at t_ ⊢; exact t_) | (dsimp only at t_ ⊢; exact t_) | (simp only [add_block] at t_ ⊢; exact t_)) _).trans (((cell_far (p := ⟨gb142, _, none⟩) (by have t_ := Nat.ne_of_lt (Nat.lt_of_lt_of_le (World.block_lt_of_cell? _ _ hw140_3) GW142.out); first | exact t_ | (rw [add_block] at t_; exact t_) | (rw [add_block] at t_ ⊢; exact t_) | (dsimp only at t_ ⊢; exact t_) | (simp only [add_block] at t_ ⊢; exact t_)) _).trans (hHeld.2.2.2.1)))))))), ((cell_far (p := ⟨gb142, _, none⟩) (by have t_ := Nat.ne_of_lt (Nat.lt_of_lt_of_le (World.block_lt_of_cell? _ _ hw141_0) GW142.out); first | exact t_ | (rw [add_block] at t_; exact t_) | (rw [add_block] at t_ ⊢; exact t_) | (dsimp only at t_ ⊢; exact t_) | (simp only [add_block] at t_ ⊢; exact t_)) _).trans (((cell_far (p := ⟨gb142, _, none⟩) (by have t_ := Nat.ne_of_lt (Nat.lt_of_lt_of_le (World.block_lt_of_cell? _ _ hw141_0) GW142.out); first | exact t_ | (rw [add_block] at t_; exact t_) | (rw [add_block] at t_ ⊢; exact t_) | (dsimp only at t_ ⊢; exact t_) | (simp only [add_block] at t_ ⊢; exact t_)) _).trans (((cell_far (p := ⟨gb142, _, none⟩) (by have t_ := Nat.ne_of_lt (Nat.lt_of_lt_of_le (World.block_lt_of_cell? _ _ hw141_0) GW142.out); first | exact t_ | (rw [add_block] at t_; exact t_) | (rw [add_block] at t_ ⊢; exact t_) | (dsimp only at t_ ⊢; exact t_) | (simp only [add_block] at t_ ⊢; exact t_)) _).trans (((cell_far (p := ⟨gb142, _, none⟩) (by have t_ := Nat.ne_of_lt (Nat.lt_of_lt_of_le (World.block_lt_of_cell? _ _ hw141_0) GW142.out); first | exact t_ | (rw [add_block] at t_; exact t_) | (rw [add_block] at t_ ⊢; exact t_) | (dsimp only at t_ ⊢; exact t_) | (simp only [add_block] at t_ ⊢; exact t_)) _).trans (hHeld.2.2.2.2.1)))))))), ((cell_far (p := ⟨gb142, _, none⟩) (by have t_ := Nat.ne_of_lt (Nat.lt_of_lt_of_le (World.block_lt_of_cell? _ _ hw141_1) GW142.out); first | exact t_ | (rw [add_block] at t_; exact t_) | (rw [add_block] at t_ ⊢; exact t_) | (dsimp only at t_ ⊢; exact t_) | (simp only [add_block] at t_ ⊢; exact t_)) _).trans (((cell_far (p := ⟨gb142, _, none⟩) (by have t_ := Nat.ne_of_lt (Nat.lt_of_lt_of_le (World.block_lt_of_cell? _ _ hw141_1) GW142.out); first | exact t_ | (rw [add_block] at t_; exact t_) | (rw [add_block] at t_ ⊢; exact t_) | (dsimp only at t_ ⊢; exact t_) | (simp only [add_block] at t_ ⊢; exact t_)) _).trans (((cell_far (p := ⟨gb142, _, none⟩) (by have t_ := Nat.ne_of_lt (Nat.lt_of_lt_of_le (World.block_lt_of_cell? _ _ hw141_1) GW142.out); first | exact t_ | (rw [add_block] at t_; exact t_) | (rw [add_block] at t_ ⊢; exact t_) | (dsimp only at t_ ⊢; exact t_) | (simp only [add_block] at t_ ⊢; exact t_)) _).trans (((cell_far (p := ⟨gb142, _, none⟩) (by have t_ := Nat.ne_of_lt (Nat.lt_of_lt_of_le (World.block_lt_of_cell? _ _ hw141_1) GW142.out); first | exact t_ | (rw [add_block] at t_; exact t_) | (rw [add_block] at t_ ⊢; exact t_) | (dsimp only at t_ ⊢; exact t_) | (simp only [add_block] at t_ ⊢; exact t_)) _).trans (hHeld.2.2.2.2.2.1)))))))), ((cell_far (p := ⟨gb142, _, none⟩) (by have t_ := Nat.ne_of_lt (Nat.lt_of_lt_of_le (World.block_lt_of_cell? _ _ hw141_2) GW142.out); first | exact t_ | (rw [add_block] at t_; exact t_) | (rw [add_block] at t_ ⊢; exact t_) | (dsimp only at t_ ⊢; exact t_) | (simp only [add_block] at t_ ⊢; exact t_)) _).trans (((cell_far (p := ⟨gb142, _, none⟩) (by have t_ := Nat.ne_of_lt (Nat.lt_of_lt_of_le (World.block_lt_of_cell? _ _ hw141_2) GW142.out); first | exact t_ | (rw [add_block] at t_; exact t_) | (rw [add_block] at t_ ⊢; exact t_) | (dsimp only at t_ ⊢; exact t_) | (simp only [add_block] at t_ ⊢; exact t_)) _).trans (((cell_far (p := ⟨gb142, _, none⟩) (by have t_ := Nat.ne_of_lt (Nat.lt_of_lt_of_le (World.block_lt_of_cell? _ _ hw141_2) GW142.out); first | exact t_ | (rw [add_block] at t_; exact t_) | (rw [add_block] at t_ ⊢; exact t_) | (dsimp only at t_ ⊢; exact t_) | (simp only [add_block] at t_ ⊢; exact t_)) _).trans (((cell_far (p := ⟨gb142, _, none⟩) (by have t_ := Nat.ne_of_lt (Nat.lt_of_lt_of_le (World.block_lt_of_cell? _ _ hw141_2) GW142.out); first | exact t_ | (rw [add_block] at t_; exact t_) | (rw [add_block] at t_ ⊢; exact t_) | (dsimp only at t_ ⊢; exact t_) | (simp only [add_block] at t_ ⊢; exact t_)) _).trans (hHeld.2.2.2.2.2.2.1)))))))), ((cell_far (p := ⟨gb142, _, none⟩) (by have t_ := Nat.ne_of_lt (Nat.lt_of_lt_of_le (World.block_lt_of_cell? _ _ hw141_3) GW142.out); first | exact t_ | (rw [add_block] at t_; exact t_) | (rw [add_block] at t_ ⊢; exact t_) | (dsimp only at t_ ⊢; exact t_) | (simp only [add_block] at t_ ⊢; exact t_)) _).trans (((cell_far (p := ⟨gb142, _, none⟩) (by have t_ := Nat.ne_of_lt (Nat.lt_of_lt_of_le (World.block_lt_of_cell? _ _ hw141_3) GW142.out); first | exact t_ | (rw [add_block] at t_; exact t_) | (rw [add_block] at t_ ⊢; exact t_) | (dsimp only at t_ ⊢; exact t_) | (simp only [add_block] at t_ ⊢; exact t_)) _).trans (((cell_far (p := ⟨gb142, _, none⟩) (by have t_ := Nat.ne_of_lt (Nat.lt_of_lt_of_le (World.block_lt_of_cell? _ _ hw141_3) GW142.out); first | exact t_ | (rw [add_block] at t_; exact t_) | (rw [add_block] at t_ ⊢; exact t_) | (dsimp only at t_ ⊢; exact t_) | (simp only [add_block] at t_ ⊢; exact t_)) _).trans (((cell_far (p := ⟨gb142, _, none⟩) (by have t_ := Nat.ne_of_lt (Nat.lt_of_lt_of_le (World.block_lt_of_cell? _ _ hw141_3) GW142.out); first | exact t_ | (rw [add_block] at t_; exact t_) | (rw [add_block] at t_ ⊢; exact t_) | (dsimp only at t_ ⊢; exact t_) | (simp only [add_block] at t_ ⊢; exact t_)) _).trans (hHeld.2.2.2.2.2.2.2))))))))⟩ (fun hHeld => ?_)
                clear hK K
                refine one_ (i := 11) (N := none) #[true, true, true, true, true, true, true, true, true, true, true, true] rfl rfl (one_of HT_.out (by kernel_rfl)) (by decide) (fun K hK => ?_)
                have hs65 : w60.cell? ⟨gb143, 0, none⟩ = some (.int .i64 0) := (blk_cell BK143.out 0).trans rfl
                have hfs65 := blk_frozen BK143.out 0
                have hns65_0 := NB142_143.out
                have hms65_0 := NB143_142.out
                have hs66 : w60.cell? ⟨gb143, 1, none⟩ = some (.int .i64 0) := (blk_cell BK143.out 1).trans rfl
                have hfs66 := blk_frozen BK143.out 1
                have hns66_0 := NB142_143.out
                have hms66_0 := NB143_142.out
                have hs67 : w60.cell? ⟨gb143, 2, none⟩ = some (.int .i64 0) := (blk_cell BK143.out 2).trans rfl
                have hfs67 := blk_frozen BK143.out 2
                have hns67_0 := NB142_143.out
                have hms67_0 := NB143_142.out
                have hs68 : w60.cell? ⟨gb143, 3, none⟩ = some (.int .i64 0) := (blk_cell BK143.out 3).trans rfl
                have hfs68 := blk_frozen BK143.out 3
                have hns68_0 := NB142_143.out
                have hms68_0 := NB143_142.out
                refine skip_ (w1 := ?_) (by rfl) rfl ?_ ?_
                rotate_left
                · go_simp
                  rfl
                refine hK.out _ _ ⟨((cell_far (p := ⟨gb143, _, none⟩) (by have t_ := Nat.ne_of_lt (Nat.lt_of_lt_of_le (World.block_lt_of_cell? _ _ hw140_0) GW143.out); first | exact t_ | (rw [add_block] at t_; exact t_) | (rw [add_block] at t_ ⊢; exact t_) | (dsimp only at t_ ⊢; exact t_) | (simp only [add_block] at t_ ⊢; exact t_)) _).trans (((cell_far (p := ⟨gb143, _, none⟩) (by have t_ := Nat.ne_of_lt (Nat.lt_of_lt_of_le (World.block_lt_of_cell? _ _ hw140_0) GW143.out); first | exact t_ | (rw [add_block] at t_; exact t_) | (rw [add_block] at t_ ⊢; exact t_) | (dsimp only at t_ ⊢; exact t_) | (simp only [add_block] at t_ ⊢; exact t_)) _).trans (((cell_far (p := ⟨gb143, _, none⟩) (by have t_ := Nat.ne_of_lt (Nat.lt_of_lt_of_le (World.block_lt_of_cell? _ _ hw140_0) GW143.out); first | exact t_ | (rw [add_block] at t_; exact t_) | (rw [add_block] at t_ ⊢; exact t_) | (dsimp only at t_ ⊢; exact t_) | (simp only [add_block] at t_ ⊢; exact t_)) _).trans (((cell_far (p := ⟨gb143, _, none⟩) (by have t_ := Nat.ne_of_lt (Nat.lt_of_lt_of_le (World.block_lt_of_cell? _ _ hw140_0) GW143.out); first | exact t_ | (rw [add_block] at t_; exact t_) | (rw [add_block] at t_ ⊢; exact t_) | (dsimp only at t_ ⊢; exact t_) | (simp only [add_block] at t_ ⊢; exact t_)) _).trans (hHeld.1)))))))), ((cell_far (p := ⟨gb143, _, none⟩) (by have t_ := Nat.ne_of_lt (Nat.lt_of_lt_of_le (World.block_lt_of_cell? _ _ hw140_1) GW143.out); first | exact t_ | (rw [add_block] at t_; exact t_) | (rw [add_block] at t_ ⊢; exact t_) | (dsimp only at t_ ⊢; exact t_) | (simp only [add_block] at t_ ⊢; exact t_)) _).trans (((cell_far (p := ⟨gb143, _, none⟩) (by have t_ := Nat.ne_of_lt (Nat.lt_of_lt_of_le (World.block_lt_of_cell? _ _ hw140_1) GW143.out); first | exact t_ | (rw [add_block] at t_; exact t_) | (rw [add_block] at t_ ⊢; exact t_) | (dsimp only at t_ ⊢; exact t_) | (simp only [add_block] at t_ ⊢; exact t_)) _).trans (((cell_far (p := ⟨gb143, _, none⟩) (by have t_ := Nat.ne_of_lt (Nat.lt_of_lt_of_le (World.block_lt_of_cell? _ _ hw140_1) GW143.out); first | exact t_ | (rw [add_block] at t_; exact t_) | (rw [add_block] at t_ ⊢; exact t_) | (dsimp only at t_ ⊢; exact t_) | (simp only [add_block] at t_ ⊢; exact t_)) _).trans (((cell_far (p := ⟨gb143, _, none⟩) (by have t_ := Nat.ne_of_lt (Nat.lt_of_lt_of_le (World.block_lt_of_cell? _ _ hw140_1) GW143.out); first | exact t_ | (rw [add_block] at t_; exact t_) | (rw [add_block] at t_ ⊢; exact t_) | (dsimp only at t_ ⊢; exact t_) | (simp only [add_block] at t_ ⊢; exact t_)) _).trans (hHeld.2.1)))))))), ((cell_far (p := ⟨gb143, _, none⟩) (by have t_ := Nat.ne_of_lt (Nat.lt_of_lt_of_le (World.block_lt_of_cell? _ _ hw140_2) GW143.out); first | exact t_ | (rw [add_block] at t_; exact t_) | (rw [add_block] at t_ ⊢; exact t_) | (dsimp only at t_ ⊢; exact t_) | (simp only [add_block] at t_ ⊢; exact t_)) _).trans (((cell_far (p := ⟨gb143, _, none⟩) (by have t_ := Nat.ne_of_lt (Nat.lt_of_lt_of_le (World.block_lt_of_cell? _ _ hw140_2) GW143.out); first | exact t_ | (rw [add_block] at t_; exact t_) | (rw [add_block] at t_ ⊢; exact t_) | (dsimp only at t_ ⊢; exact t_) | (simp only [add_block] at t_ ⊢; exact t_)) _).trans (((cell_far (p := ⟨gb143, _, none⟩) (by have t_ := Nat.ne_of_lt (Nat.lt_of_lt_of_le (World.block_lt_of_cell? _ _ hw140_2) GW143.out); first | exact t_ | (rw [add_block] at t_; exact t_) | (rw [add_block] at t_ ⊢; exact t_) | (dsimp only at t_ ⊢; exact t_) | (simp only [add_block] at t_ ⊢; exact t_)) _).trans (((cell_far (p := ⟨gb143, _, none⟩) (by have t_ := Nat.ne_of_lt (Nat.lt_of_lt_of_le (World.block_lt_of_cell? _ _ hw140_2) GW143.out); first | exact t_ | (rw [add_block] at t_; exact t_) | (rw [add_block] at t_ ⊢; exact t_) | (dsimp only at t_ ⊢; exact t_) | (simp only [add_block] at t_ ⊢; exact t_)) _).trans (hHeld.2.2.1)))))))), ((cell_far (p := ⟨gb143, _, none⟩) (by have t_ := Nat.ne_of_lt (Nat.lt_of_lt_of_le (World.block_lt_of_cell? _ _ hw140_3) GW143.out); first | exact t_ | (rw [add_block] at t_; exact t_) | (rw [add_block] at t_ ⊢; exact t_) | (dsimp only at t_ ⊢; exact t_) | (simp only [add_block] at t_ ⊢; exact t_)) _).trans (((cell_far (p := ⟨gb143, _, none⟩) (by have t_ := Nat.ne_of_lt (Nat.lt_of_lt_of_le (World.block_lt_of_cell? _ _ hw140_3) GW143.out); first | exact t_ | (rw [add_block] at t_; exact t_) | (rw [add_block] at t_ ⊢; exact t_) | (dsimp only at t_ ⊢; exact t_) | (simp only [add_block] at t_ ⊢; exact t_)) _).trans (((cell_far (p := ⟨gb143, _, none⟩) (by have t_ := Nat.ne_of_lt (Nat.lt_of_lt_of_le (World.block_lt_of_cell? _ _ hw140_3) GW143.out); first | exact t_ | (rw [add_block] at t_; exact t_) | (rw [add_block] at t_ ⊢; exact t_) | (dsimp only at t_ ⊢; exact t_) | (simp only [add_block] at t_ ⊢; exact t_)) _).trans (((cell_far (p := ⟨gb143, _, none⟩) (by have t_ := Nat.ne_of_lt (Nat.lt_of_lt_of_le (World.block_lt_of_cell? _ _ hw140_3) GW143.out); first | exact t_ | (rw [add_block] at t_; exact t_) | (rw [add_block] at t_ ⊢; exact t_) | (dsimp only at t_ ⊢; exact t_) | (simp only [add_block] at t_ ⊢; exact t_)) _).trans (hHeld.2.2.2.1)))))))), ((cell_far (p := ⟨gb143, _, none⟩) (by have t_ := Nat.ne_of_lt (Nat.lt_of_lt_of_le (World.block_lt_of_cell? _ _ hw141_0) GW143.out); first | exact t_ | (rw [add_block] at t_; exact t_) | (rw [add_block] at t_ ⊢; exact t_) | (dsimp only at t_ ⊢; exact t_) | (simp only [add_block] at t_ ⊢; exact t_)) _).trans (((cell_far (p := ⟨gb143, _, none⟩) (by have t_ := Nat.ne_of_lt (Nat.lt_of_lt_of_le (World.block_lt_of_cell? _ _ hw141_0) GW143.out); first | exact t_ | (rw [add_block] at t_; exact t_) | (rw [add_block] at t_ ⊢; exact t_) | (dsimp only at t_ ⊢; exact t_) | (simp only [add_block] at t_ ⊢; exact t_)) _).trans (((cell_far (p := ⟨gb143, _, none⟩) (by have t_ := Nat.ne_of_lt (Nat.lt_of_lt_of_le (World.block_lt_of_cell? _ _ hw141_0) GW143.out); first | exact t_ | (rw [add_block] at t_; exact t_) | (rw [add_block] at t_ ⊢; exact t_) | (dsimp only at t_ ⊢; exact t_) | (simp only [add_block] at t_ ⊢; exact t_)) _).trans (((cell_far (p := ⟨gb143, _, none⟩) (by have t_ := Nat.ne_of_lt (Nat.lt_of_lt_of_le (World.block_lt_of_cell? _ _ hw141_0) GW143.out); first | exact t_ | (rw [add_block] at t_; exact t_) | (rw [add_block] at t_ ⊢; exact t_) | (dsimp only at t_ ⊢; exact t_) | (simp only [add_block] at t_ ⊢; exact t_)) _).trans (hHeld.2.2.2.2.1)))))))), ((cell_far (p := ⟨gb143, _, none⟩) (by have t_ := Nat.ne_of_lt (Nat.lt_of_lt_of_le (World.block_lt_of_cell? _ _ hw141_1) GW143.out); first | exact t_ | (rw [add_block] at t_; exact t_) | (rw [add_block] at t_ ⊢; exact t_) | (dsimp only at t_ ⊢; exact t_) | (simp only [add_block] at t_ ⊢; exact t_)) _).trans (((cell_far (p := ⟨gb143, _, none⟩) (by have t_ := Nat.ne_of_lt (Nat.lt_of_lt_of_le (World.block_lt_of_cell? _ _ hw141_1) GW143.out); first | exact t_ | (rw [add_block] at t_; exact t_) | (rw [add_block] at t_ ⊢; exact t_) | (dsimp only at t_ ⊢; exact t_) | (simp only [add_block] at t_ ⊢; exact t_)) _).trans (((cell_far (p := ⟨gb143, _, none⟩) (by have t_ := Nat.ne_of_lt (Nat.lt_of_lt_of_le (World.block_lt_of_cell? _ _ hw141_1) GW143.out); first | exact t_ | (rw [add_block] at t_; exact t_) | (rw [add_block] at t_ ⊢; exact t_) | (dsimp only at t_ ⊢; exact t_) | (simp only [add_block] at t_ ⊢; exact t_)) _).trans (((cell_far (p := ⟨gb143, _, none⟩) (by have t_ := Nat.ne_of_lt (Nat.lt_of_lt_of_le (World.block_lt_of_cell? _ _ hw141_1) GW143.out); first | exact t_ | (rw [add_block] at t_; exact t_) | (rw [add_block] at t_ ⊢; exact t_) | (dsimp only at t_ ⊢; exact t_) | (simp only [add_block] at t_ ⊢; exact t_)) _).trans (hHeld.2.2.2.2.2.1)))))))), ((cell_far (p := ⟨gb143, _, none⟩) (by have t_ := Nat.ne_of_lt (Nat.lt_of_lt_of_le (World.block_lt_of_cell? _ _ hw141_2) GW143.out); first | exact t_ | (rw [add_block] at t_; exact t_) | (rw [add_block] at t_ ⊢; exact t_) | (dsimp only at t_ ⊢; exact t_) | (simp only [add_block] at t_ ⊢; exact t_)) _).trans (((cell_far (p := ⟨gb143, _, none⟩) (by have t_ := Nat.ne_of_lt (Nat.lt_of_lt_of_le (World.block_lt_of_cell? _ _ hw141_2) GW143.out); first | exact t_ | (rw [add_block] at t_; exact t_) | (rw [add_block] at t_ ⊢; exact t_) | (dsimp only at t_ ⊢; exact t_) | (simp only [add_block] at t_ ⊢; exact t_)) _).trans (((cell_far (p := ⟨gb143, _, none⟩) (by have t_ := Nat.ne_of_lt (Nat.lt_of_lt_of_le (World.block_lt_of_cell? _ _ hw141_2) GW143.out); first | exact t_ | (rw [add_block] at t_; exact t_) | (rw [add_block] at t_ ⊢; exact t_) | (dsimp only at t_ ⊢; exact t_) | (simp only [add_block] at t_ ⊢; exact t_)) _).trans (((cell_far (p := ⟨gb143, _, none⟩) (by have t_ := Nat.ne_of_lt (Nat.lt_of_lt_of_le (World.block_lt_of_cell? _ _ hw141_2) GW143.out); first | exact t_ | (rw [add_block] at t_; exact t_) | (rw [add_block] at t_ ⊢; exact t_) | (dsimp only at t_ ⊢; exact t_) | (simp only [add_block] at t_ ⊢; exact t_)) _).trans (hHeld.2.2.2.2.2.2.1)))))))), ((cell_far (p := ⟨gb143, _, none⟩) (by have t_ := Nat.ne_of_lt (Nat.lt_of_lt_of_le (World.block_lt_of_cell? _ _ hw141_3) GW143.out); first | exact t_ | (rw [add_block] at t_; exact t_) | (rw [add_block] at t_ ⊢; exact t_) | (dsimp only at t_ ⊢; exact t_) | (simp only [add_block] at t_ ⊢; exact t_)) _).trans (((cell_far (p := ⟨gb143, _, none⟩) (by have t_ := Nat.ne_of_lt (Nat.lt_of_lt_of_le (World.block_lt_of_cell? _ _ hw141_3) GW143.out); first | exact t_ | (rw [add_block] at t_; exact t_) | (rw [add_block] at t_ ⊢; exact t_) | (dsimp only at t_ ⊢; exact t_) | (simp only [add_block] at t_ ⊢; exact t_)) _).trans (((cell_far (p := ⟨gb143, _, none⟩) (by have t_ := Nat.ne_of_lt (Nat.lt_of_lt_of_le (World.block_lt_of_cell? _ _ hw141_3) GW143.out); first | exact t_ | (rw [add_block] at t_; exact t_) | (rw [add_block] at t_ ⊢; exact t_) | (dsimp only at t_ ⊢; exact t_) | (simp only [add_block] at t_ ⊢; exact t_)) _).trans (((cell_far (p := ⟨gb143, _, none⟩) (by have t_ := Nat.ne_of_lt (Nat.lt_of_lt_of_le (World.block_lt_of_cell? _ _ hw141_3) GW143.out); first | exact t_ | (rw [add_block] at t_; exact t_) | (rw [add_block] at t_ ⊢; exact t_) | (dsimp only at t_ ⊢; exact t_) | (simp only [add_block] at t_ ⊢; exact t_)) _).trans (hHeld.2.2.2.2.2.2.2))))))))⟩ (fun hHeld => ?_)
                clear hK K
                refine done_ (done_of HT_.out (by kernel_rfl)) ?_
                have hnb69 := NB142_143.out
                have hnc69 := NB143_142.out
                have hcz70_0 : w60.cell? ⟨gb142, 0, none⟩ = some (.int .i64 0) := (blk_cell BK142.out 0).trans rfl
                have hcz70_1 : w60.cell? ⟨gb142, 1, none⟩ = some (.int .i64 0) := (blk_cell BK142.out 1).trans rfl
                have hcz70_2 : w60.cell? ⟨gb142, 2, none⟩ = some (.int .i64 0) := (blk_cell BK142.out 2).trans rfl
                have hcz70_3 : w60.cell? ⟨gb142, 3, none⟩ = some (.int .i64 0) := (blk_cell BK142.out 3).trans rfl
                have hfz70_0 := blk_frozen BK142.out 0
                have hfz70_1 := blk_frozen BK142.out 1
                have hfz70_2 := blk_frozen BK142.out 2
                have hfz70_3 := blk_frozen BK142.out 3
                have hcz71_0 : w60.cell? ⟨gb143, 0, none⟩ = some (.int .i64 0) := (blk_cell BK143.out 0).trans rfl
                have hcz71_1 : w60.cell? ⟨gb143, 1, none⟩ = some (.int .i64 0) := (blk_cell BK143.out 1).trans rfl
                have hcz71_2 : w60.cell? ⟨gb143, 2, none⟩ = some (.int .i64 0) := (blk_cell BK143.out 2).trans rfl
                have hcz71_3 : w60.cell? ⟨gb143, 3, none⟩ = some (.int .i64 0) := (blk_cell BK143.out 3).trans rfl
                have hfz71_0 := blk_frozen BK143.out 0
                have hfz71_1 := blk_frozen BK143.out 1
                have hfz71_2 := blk_frozen BK143.out 2
                have hfz71_3 := blk_frozen BK143.out 3
                try go_wp2
                go_ret
                exact ⟨by first | rfl | (simp [errW_none, errW_some] <;> rfl) | (simp [*, errW_none, errW_some] <;> rfl), by repeat (first | (with_reducible first | exact HB.out | apply below_alloc | apply pw_below_drewN | apply below_drew1 | refine below_set ?_ GE142.out | refine below_set ?_ GE143.out) | exact HB.out)⟩
        · rw [if_neg c8] at H
          exact absurd H (by simp)
      · rw [if_neg c7] at H
        exact absurd H (by simp)
    · rw [if_neg c6] at H
      exact absurd H (by simp)
  · rw [if_neg c5] at H
    exact absurd H (by simp)

end Go.Proofs.Ytoeoaphejhmjbaa.XFnExactOnTime
