-- Written by a program of this session (the kit's print, widened). Proved here: what each function answers, for the arguments that its contract names.
import Derived.Test.YtafjdcjaigmnaaaXFnExactUnitGreedyx0
import Derived.Test.YtafjdcjaigmnaaaXFnExactUnitGreedyx7
import Derived.Test.YtafjdcjaigmnaaaXFnExactUnitGreedyx10
namespace Go.Proofs.Ytafjdcjaigmnaaa.XFnExactUnitGreedy
open Go.RowKit Go.Proofs.YtafjdcjaigmnaaaW.PrintWords Go.Proofs.YtafjdcjaigmnaaaW.PrintLast Go.Proofs.YtafjdcjaigmnaaaW.PrintMore
attribute [local go_sem] max2_int min2_int max_two min_two max_three min_three max_four min_four   -- for this text's walks alone
attribute [local go_sem] idxA_75_0 idxA_75_1 fldS_65_0 fldS_65_1 fldS_65_2
set_option linter.unusedVariables false
set_option linter.unusedSimpArgs false

/-! ### impl_putInt: function 66, by hand -/
/-! ### impl_putInt, by hand: a number put into a row of one's own, where it does not stand yet -/
set_option maxHeartbeats 8000000 in
set_option maxRecDepth 100000 in
theorem impl_putInt.calls (A0 : Option Addr) (c : Nat) (l : List Int) (n : Int) (w0 w : World) (hB : Below w0.heap.size w0 w) (ho : Kd.R (Kd.int .i64) 3 w w0.heap.size (fun _ => True) (.slice A0 l.length c) l) (hl : l.length ≤ 1048576) (hn : n ∉ l) :
    Calls Try.prog 66 #[.slice A0 l.length c, .int .i64 n] w fun e w' => ∃ v0_ : Value, e = .returned v0_ ∧ Kd.R (Kd.int .i64) 3 w' w0.heap.size (fun _ => True) v0_ (insAt (fun a b => decide (a < b)) n l) ∧ Below w0.heap.size w0 w' := by
  have HB := Aside0.mk hB
  have HO_5 := Aside0.mk ho
  have HL := Aside0.mk hl
  have HN := Aside0.mk hn
  clear hB ho hl hn
  go_enter Try.func66, Try.ntmps66
  go_wp2
  go_loopg [5] l.length (fun kq v5 w' => ∃ (k : Int), v5 = .int .i64 k ∧ Aside0 (0 ≤ k ∧ k.toNat = kq ∧ kq ≤ l.length) ∧ Aside0 (insPos (fun a b => decide (a < b)) n l k.toNat = insPos (fun a b => decide (a < b)) n l l.length) ∧ Aside0 (Kd.R (Kd.int .i64) 3 w' w0.heap.size (fun _ => True) (.slice A0 l.length c) l) ∧ Aside0 (Below w0.heap.size w0 w'))
  case atStart => exact ⟨(l.length : Int), (by first | rfl | (simp; done)), ⟨by omega⟩, ⟨by simp⟩, HO_5, HB⟩
  case round =>
    clear HO_5 HB
    obtain ⟨k, rfl, HK2, HP, HO_5, HB⟩ := hrel
    by_cases hk : 0 < k
    · have kb : decide (0 < k) = true := decide_eq_true hk
      obtain ⟨j, hj⟩ : ∃ j : Int, wrap64 (k - 1) = j := ⟨_, rfl⟩
      have HJ : Aside0 (j = k - 1) := ⟨by rw [← hj]; unfold wrap64; have := HK2.out; have := HL.out; omega⟩
      have hw : IntKind.i64.wrap (k - 1) = j := (i64_w _).trans hj
      have p2 : 0 ≤ j := by have := HJ.out; omega
      have q2 : j < (l.length : Int) := by have := HK2.out; have := HJ.out; omega
      obtain ⟨ad2, e2, hx2_0⟩ := Kd.at_int (Kd.R_reads' HO_5.out).2.2 j p2 q2
      subst e2
      obtain ⟨y, hy⟩ : ∃ y : Int, rd l j = y := ⟨_, rfl⟩
      have hym : y ∈ l := by rw [← hy, rd_int p2 q2]; exact List.getElem_mem _
      have hyn : y ≠ n := fun e => HN.out (e ▸ hym)
      have hyb : (y == n) = false := by simpa using hyn
      have hyd : decide (y = n) = false := decide_eq_false hyn
      rw [hy] at hx2_0
      have HY := Aside0.mk hy
      clear hy hym hyn
      replace p2 := eq_true p2
      replace q2 := eq_true q2
      by_cases hl : n < y
      · have hlb : decide (n < y) = true := decide_eq_true hl
        go_wp2
        go_roundg j.toNat
        case measure => have := HK2.out; have := HJ.out; omega
        case rel => exact ⟨j, (by first | rfl | (simp; done) | (simp [*]; done)), ⟨by have := HK2.out; have := HJ.out; omega⟩, ⟨by rw [← HP.out, show k.toNat = j.toNat + 1 by have := HJ.out; have := HK2.out; omega, insPos, if_pos (by rw [← hlb, ← HY.out, rd_int (of_eq_true p2) (of_eq_true q2)]; simp [show j.toNat < l.length by have := of_eq_true q2; have := of_eq_true p2; omega])]⟩, ⟨by (with_reducible repeat (first | apply Kd.R_alloc | apply Kd.R_drewN | apply Kd.R_drew)); exact HO_5.out⟩, ⟨by repeat (first | (with_reducible first | exact HB.out | apply below_alloc | apply pw_below_drewN | apply below_drew1) | exact HB.out)⟩⟩
      · have hlb : decide (n < y) = false := decide_eq_false hl
        have HPK : Aside0 (insPos (fun a b => decide (a < b)) n l l.length = k.toNat ∧ 0 ≤ k ∧ k ≤ l.length) := ⟨by rw [← HP.out, show k.toNat = j.toNat + 1 by have := HJ.out; have := HK2.out; omega, insPos, if_neg (by rw [← HY.out, rd_int (of_eq_true p2) (of_eq_true q2)] at hl; simpa [show j.toNat < l.length by have := of_eq_true q2; have := of_eq_true p2; omega] using hl)]; exact ⟨rfl, by have := HK2.out; omega, by have := HK2.out; omega⟩⟩
        clear hl
        go_wp2_with (first | ((with_reducible refine gate_builtin (b := .append) (xs := #[.tmp 33, .tmp 34]) rfl ?_); at_builtin; refine Kd.R_append (Kd.int .i64) (w0 := w0) w0.heap.size rfl (.tmp 33) (.tmp 34) 24 3 (.int .i64 0) 8 rfl Try.underlying24 info3 rfl (by decide) (by omega) (.slice (some ad2) l.length c) l 0 [.int .i64 0] (fun _ => True) (fun _ => False) rfl rfl ?aP (fun _ hk => hk.elim) ?aF ?aO ?aB ?aS ?aL ?_; (case aP => exact rfl); (case aB => exact (by repeat (first | (with_reducible first | exact HB.out | apply below_alloc | apply pw_below_drewN | apply below_drew1) | exact HB.out))); (case aF => exact (fun _ _ => trivial)); (case aO => exact (by (with_reducible repeat (first | apply Kd.R_alloc | apply Kd.R_drewN | apply Kd.R_drew)); exact HO_5.out)); (case aS => exact (below_size (by repeat (first | (with_reducible first | exact HB.out | apply below_alloc | apply pw_below_drewN | apply below_drew1) | exact HB.out)))); (case aL => have := HL.out; omega); intro v6 w4 ho hb hg hat; have n0_ := Aside0.mk hb; have n1_ := Aside0.mk ho; clear HB HO_5; have HB := n0_; have HO_6 := n1_; clear n0_ n1_ ho hb hg hat; obtain ⟨g6, c6, ev6, gb6, gl6, cl6, hg6⟩ := Kd.R_form HO_6.out (by simp); subst ev6; have GB6 := Aside0.mk gb6; have HG6 := Aside0.mk hg6; clear gb6 gl6 hg6))
        obtain ⟨q1, hq1⟩ : ∃ q : Int, wrap64 (k + 1) = q := ⟨_, rfl⟩
        have HQ : Aside0 (q1 = k + 1) := ⟨by rw [← hq1]; unfold wrap64; have := HPK.out; have := HL.out; omega⟩
        have hqw : IntKind.i64.wrap (k + 1) = q1 := (i64_w _).trans hq1
        obtain ⟨i0_, hi0_, _, hsz_, _⟩ := info_parts info3
        have hlen6 : l.length + 1 ≤ c6 := by have := (Kd.R_reads' HO_6.out).2.1; simpa using this
        have hcutA := cut_from (P := Try.prog) 24 3 .i64 Try.underlying24 hi0_ 1 hsz_ (some ⟨g6, 0, none⟩) (l.length + 1) c6 q1 (by have := HPK.out; have := HQ.out; omega) (by have := HPK.out; have := HQ.out; omega)
        have hcutB := cut_from (P := Try.prog) 24 3 .i64 Try.underlying24 hi0_ 1 hsz_ (some ⟨g6, 0, none⟩) (l.length + 1) c6 k (by have := HPK.out; omega) (by have := HPK.out; omega)
        obtain ⟨DA, hDA⟩ : ∃ A1 : Option Addr, A1 = (if c6 = q1.toNat then some (⟨g6, 0, none⟩ : Addr) else (some (⟨g6, 0, none⟩ : Addr)).map (·.add (q1.toNat * 1))) := ⟨_, rfl⟩
        obtain ⟨DB, hDB⟩ : ∃ A1 : Option Addr, A1 = (if c6 = k.toNat then some (⟨g6, 0, none⟩ : Addr) else (some (⟨g6, 0, none⟩ : Addr)).map (·.add (k.toNat * 1))) := ⟨_, rfl⟩
        rw [← hDA] at hcutA
        rw [← hDB] at hcutB
        have HDA := Aside0.mk hDA
        have HDB := Aside0.mk hDB
        clear hDA hDB
        obtain ⟨ys, hys⟩ : ∃ ys : List Int, ys = l.drop k.toNat := ⟨_, rfl⟩
        have HYS := Aside0.mk hys
        obtain ⟨cs, hcs⟩ : ∃ cs : List Value, cs = ys.map (fun y => Value.int .i64 y) := ⟨_, rfl⟩
        have HCS := Aside0.mk hcs
        clear hys hcs
        clear HK2
        go_region_law (refine step_copy_splice (by rfl) (.tmp 39) (.tmp 42) 24 24 (by rfl) 3 Try.underlying24 (by rw [hi0_]; exact congrArg some hsz_) DA DB (l.length + 1 - q1.toNat) (c6 - q1.toNat) (l.length + 1 - k.toNat) (c6 - k.toNat) (by go_simp) (by go_simp) g6 q1.toNat cl6.toList 3 (by rw [Array.toArray_toList]; exact HG6.out) cs (sb_hn HPK.out.2.1 HPK.out.2.2 HQ.out HCS.out HYS.out) (sb_hpos HO_6.out HPK.out.2.1 HQ.out hlen6 (HCS.out.trans (by rw [HYS.out])) HDA.out HDB.out) (sb_fit HPK.out.2.1 HPK.out.2.2 HQ.out HCS.out HYS.out hlen6 (sb_size HO_6.out HG6.out)) (sb_one HCS.out) w0.heap.size w0 (by repeat (first | (with_reducible first | exact HB.out | apply below_alloc | apply pw_below_drewN | apply below_drew1) | exact HB.out)) GB6.out ?_; intro w7 hg7 hb7)
        have HO_7 : Aside0 (Kd.R (Kd.int .i64) 3 w7 w0.heap.size (fun _ => True) (.slice (some ⟨g6, 0, none⟩) (l.length + 1) c6) (splice (l ++ [0]) q1.toNat ys)) := ⟨by
          have h6 := R_splice HO_6.out HG6.out (off := q1.toNat) (ys := ys) (by have h1 := HPK.out; have h2 := HQ.out; rw [HYS.out]; simp; omega) (by rw [← HCS.out]; exact hg7)
          have h8 : (l ++ [(0 : Int)]).length = l.length + 1 := by simp
          rw [h8] at h6
          exact h6⟩
        have HX7 : Aside0 ((splice (l ++ [0]) q1.toNat ys).set k.toNat n = insAt (fun a b => decide (a < b)) n l) := ⟨by rw [HQ.out, HYS.out, sb_set HPK.out.2.1 HPK.out.2.2, insAt, HPK.out.1]⟩
        obtain ⟨xs7, hxs7⟩ : ∃ xs7 : List Int, xs7 = splice (l ++ [0]) q1.toNat ys := ⟨_, rfl⟩
        rw [← hxs7] at HO_7 HX7
        have HB7 := Aside0.mk hb7
        clear hb7 hg7 hxs7 HB HO_6 HG6 hcutA hcutB HDA HDB HYS HCS
        have HB := HB7
        clear HB7
        have p8 : 0 ≤ k := HPK.out.2.1
        have q8 : k < ((l.length + 1 : Nat) : Int) := by have := HPK.out; omega
        obtain ⟨hx9_0, hf9_0⟩ := Kd.R_celln 0 HO_7.out k p8 q8
        replace p8 := eq_true p8
        replace q8 := eq_true q8
        have q8c : (k < (l.length : Int) + 1) = True := eq_true (by have := of_eq_true q8; omega)
        have HP10 := Kd.R_putg HO_7.out k n
        go_wp2_with (first | ((with_reducible refine gate_store (t := 3) (p := 47) rfl ?_); refine store_event (t := 3) (p := 47) (v := ?vo_w11) (w1 := (w7.setCell ⟨g6, k.toNat, none⟩ (.int .i64 n))) ?hg ?ho ?hn ?hr ?_; (case ho => rfl); (case hg => rfl); (case hn => rfl); (case hr => first | (go_simp; done) | (go_simp; rfl)); intro w11 hw; have hp_ : Kd.R (Kd.int .i64) 3 w11 w0.heap.size (fun _ => True) (.slice (some ⟨g6, 0, none⟩) (l.length + 1) c6) (insAt (fun a b => decide (a < b)) n l) := (by rw [hw, ← HX7.out]; exact HP10.1); clear HP10; have n0_ := Aside0.mk (hp_); have n1_ := Aside0.mk ((by rw [hw]; exact below_set (HB.out) GB6.out : Below w0.heap.size w0 w11)); clear HO_7; clear HB; have HO_3 := n0_; have HB := n1_; clear n0_ n1_; clear hw hp_))
        go_ret
        exact ⟨_, rfl, by (with_reducible repeat (first | apply Kd.R_alloc | apply Kd.R_drewN | apply Kd.R_drew)); exact HO_3.out, by repeat (first | (with_reducible first | exact HB.out | apply below_alloc | apply pw_below_drewN | apply below_drew1) | exact HB.out)⟩
    · have kb : decide (0 < k) = false := decide_eq_false hk
      have HPK : Aside0 (insPos (fun a b => decide (a < b)) n l l.length = k.toNat ∧ 0 ≤ k ∧ k ≤ l.length) := ⟨by rw [← HP.out, show k.toNat = 0 by omega]; exact ⟨rfl, HK2.out.1, by have := HK2.out; omega⟩⟩
      go_wp2_with (first | ((with_reducible refine gate_builtin (b := .append) (xs := #[.tmp 33, .tmp 34]) rfl ?_); at_builtin; refine Kd.R_append (Kd.int .i64) (w0 := w0) w0.heap.size rfl (.tmp 33) (.tmp 34) 24 3 (.int .i64 0) 8 rfl Try.underlying24 info3 rfl (by decide) (by omega) (.slice A0 l.length c) l 0 [.int .i64 0] (fun _ => True) (fun _ => False) rfl rfl ?aP (fun _ hk => hk.elim) ?aF ?aO ?aB ?aS ?aL ?_; (case aP => exact rfl); (case aB => exact (by repeat (first | (with_reducible first | exact HB.out | apply below_alloc | apply pw_below_drewN | apply below_drew1) | exact HB.out))); (case aF => exact (fun _ _ => trivial)); (case aO => exact (by (with_reducible repeat (first | apply Kd.R_alloc | apply Kd.R_drewN | apply Kd.R_drew)); exact HO_5.out)); (case aS => exact (below_size (by repeat (first | (with_reducible first | exact HB.out | apply below_alloc | apply pw_below_drewN | apply below_drew1) | exact HB.out)))); (case aL => have := HL.out; omega); intro v6 w4 ho hb hg hat; have n0_ := Aside0.mk hb; have n1_ := Aside0.mk ho; clear HB HO_5; have HB := n0_; have HO_6 := n1_; clear n0_ n1_ ho hb hg hat; obtain ⟨g6, c6, ev6, gb6, gl6, cl6, hg6⟩ := Kd.R_form HO_6.out (by simp); subst ev6; have GB6 := Aside0.mk gb6; have HG6 := Aside0.mk hg6; clear gb6 gl6 hg6))
      obtain ⟨q1, hq1⟩ : ∃ q : Int, wrap64 (k + 1) = q := ⟨_, rfl⟩
      have HQ : Aside0 (q1 = k + 1) := ⟨by rw [← hq1]; unfold wrap64; have := HPK.out; have := HL.out; omega⟩
      have hqw : IntKind.i64.wrap (k + 1) = q1 := (i64_w _).trans hq1
      obtain ⟨i0_, hi0_, _, hsz_, _⟩ := info_parts info3
      have hlen6 : l.length + 1 ≤ c6 := by have := (Kd.R_reads' HO_6.out).2.1; simpa using this
      have hcutA := cut_from (P := Try.prog) 24 3 .i64 Try.underlying24 hi0_ 1 hsz_ (some ⟨g6, 0, none⟩) (l.length + 1) c6 q1 (by have := HPK.out; have := HQ.out; omega) (by have := HPK.out; have := HQ.out; omega)
      have hcutB := cut_from (P := Try.prog) 24 3 .i64 Try.underlying24 hi0_ 1 hsz_ (some ⟨g6, 0, none⟩) (l.length + 1) c6 k (by have := HPK.out; omega) (by have := HPK.out; omega)
      obtain ⟨DA, hDA⟩ : ∃ A1 : Option Addr, A1 = (if c6 = q1.toNat then some (⟨g6, 0, none⟩ : Addr) else (some (⟨g6, 0, none⟩ : Addr)).map (·.add (q1.toNat * 1))) := ⟨_, rfl⟩
      obtain ⟨DB, hDB⟩ : ∃ A1 : Option Addr, A1 = (if c6 = k.toNat then some (⟨g6, 0, none⟩ : Addr) else (some (⟨g6, 0, none⟩ : Addr)).map (·.add (k.toNat * 1))) := ⟨_, rfl⟩
      rw [← hDA] at hcutA
      rw [← hDB] at hcutB
      have HDA := Aside0.mk hDA
      have HDB := Aside0.mk hDB
      clear hDA hDB
      obtain ⟨ys, hys⟩ : ∃ ys : List Int, ys = l.drop k.toNat := ⟨_, rfl⟩
      have HYS := Aside0.mk hys
      obtain ⟨cs, hcs⟩ : ∃ cs : List Value, cs = ys.map (fun y => Value.int .i64 y) := ⟨_, rfl⟩
      have HCS := Aside0.mk hcs
      clear hys hcs
      clear HK2
      go_region_law (refine step_copy_splice (by rfl) (.tmp 39) (.tmp 42) 24 24 (by rfl) 3 Try.underlying24 (by rw [hi0_]; exact congrArg some hsz_) DA DB (l.length + 1 - q1.toNat) (c6 - q1.toNat) (l.length + 1 - k.toNat) (c6 - k.toNat) (by go_simp) (by go_simp) g6 q1.toNat cl6.toList 3 (by rw [Array.toArray_toList]; exact HG6.out) cs (sb_hn HPK.out.2.1 HPK.out.2.2 HQ.out HCS.out HYS.out) (sb_hpos HO_6.out HPK.out.2.1 HQ.out hlen6 (HCS.out.trans (by rw [HYS.out])) HDA.out HDB.out) (sb_fit HPK.out.2.1 HPK.out.2.2 HQ.out HCS.out HYS.out hlen6 (sb_size HO_6.out HG6.out)) (sb_one HCS.out) w0.heap.size w0 (by repeat (first | (with_reducible first | exact HB.out | apply below_alloc | apply pw_below_drewN | apply below_drew1) | exact HB.out)) GB6.out ?_; intro w7 hg7 hb7)
      have HO_7 : Aside0 (Kd.R (Kd.int .i64) 3 w7 w0.heap.size (fun _ => True) (.slice (some ⟨g6, 0, none⟩) (l.length + 1) c6) (splice (l ++ [0]) q1.toNat ys)) := ⟨by
        have h6 := R_splice HO_6.out HG6.out (off := q1.toNat) (ys := ys) (by have h1 := HPK.out; have h2 := HQ.out; rw [HYS.out]; simp; omega) (by rw [← HCS.out]; exact hg7)
        have h8 : (l ++ [(0 : Int)]).length = l.length + 1 := by simp
        rw [h8] at h6
        exact h6⟩
      have HX7 : Aside0 ((splice (l ++ [0]) q1.toNat ys).set k.toNat n = insAt (fun a b => decide (a < b)) n l) := ⟨by rw [HQ.out, HYS.out, sb_set HPK.out.2.1 HPK.out.2.2, insAt, HPK.out.1]⟩
      obtain ⟨xs7, hxs7⟩ : ∃ xs7 : List Int, xs7 = splice (l ++ [0]) q1.toNat ys := ⟨_, rfl⟩
      rw [← hxs7] at HO_7 HX7
      have HB7 := Aside0.mk hb7
      clear hb7 hg7 hxs7 HB HO_6 HG6 hcutA hcutB HDA HDB HYS HCS
      have HB := HB7
      clear HB7
      have p8 : 0 ≤ k := HPK.out.2.1
      have q8 : k < ((l.length + 1 : Nat) : Int) := by have := HPK.out; omega
      obtain ⟨hx9_0, hf9_0⟩ := Kd.R_celln 0 HO_7.out k p8 q8
      replace p8 := eq_true p8
      replace q8 := eq_true q8
      have q8c : (k < (l.length : Int) + 1) = True := eq_true (by have := of_eq_true q8; omega)
      have HP10 := Kd.R_putg HO_7.out k n
      go_wp2_with (first | ((with_reducible refine gate_store (t := 3) (p := 47) rfl ?_); refine store_event (t := 3) (p := 47) (v := ?vo_w11) (w1 := (w7.setCell ⟨g6, k.toNat, none⟩ (.int .i64 n))) ?hg ?ho ?hn ?hr ?_; (case ho => rfl); (case hg => rfl); (case hn => rfl); (case hr => first | (go_simp; done) | (go_simp; rfl)); intro w11 hw; have hp_ : Kd.R (Kd.int .i64) 3 w11 w0.heap.size (fun _ => True) (.slice (some ⟨g6, 0, none⟩) (l.length + 1) c6) (insAt (fun a b => decide (a < b)) n l) := (by rw [hw, ← HX7.out]; exact HP10.1); clear HP10; have n0_ := Aside0.mk (hp_); have n1_ := Aside0.mk ((by rw [hw]; exact below_set (HB.out) GB6.out : Below w0.heap.size w0 w11)); clear HO_7; clear HB; have HO_3 := n0_; have HB := n1_; clear n0_ n1_; clear hw hp_))
      go_ret
      exact ⟨_, rfl, by (with_reducible repeat (first | apply Kd.R_alloc | apply Kd.R_drewN | apply Kd.R_drew)); exact HO_3.out, by repeat (first | (with_reducible first | exact HB.out | apply below_alloc | apply pw_below_drewN | apply below_drew1) | exact HB.out)⟩

end Go.Proofs.Ytafjdcjaigmnaaa.XFnExactUnitGreedy
