-- Written by a program of this session (the kit's print, widened). Proved here: what each function answers, for the arguments that its contract names.
import Derived.Test.YtphgpffgidfmmaaXFnStringsx0
import Derived.Test.YtphgpffgidfmmaaXFnStringsx1
import Derived.Test.YtphgpffgidfmmaaXFnStringsx2
import Derived.Test.YtphgpffgidfmmaaXFnStringsx3
import Derived.Test.YtphgpffgidfmmaaXFnStringsx4
import Derived.Test.YtphgpffgidfmmaaXFnStringsx5
namespace Go.Proofs.Ytphgpffgidfmmaa.XFnStrings
open Go.RowKit Go.Proofs.YtphgpffgidfmmaaW.PrintWords Go.Proofs.YtphgpffgidfmmaaW.PrintLast Go.Proofs.YtphgpffgidfmmaaW.PrintMore
attribute [local go_sem] max2_int min2_int max_two min_two max_three min_three max_four min_four   -- for this text's walks alone
attribute [local go_sem] fldS_78_0 fldS_78_1 fldS_78_2
set_option linter.unusedVariables false
set_option linter.unusedSimpArgs false

/-! ### laws_FnStrings: function 8, by hand -/
/-! ### laws_FnStrings, by hand -/
/-- a text with one byte changed -/
def flipAt (y : ByteArray) (i v : Int) : ByteArray := strOfNums ((bytesOf y).set i.toNat (Go.bits .xor .u8 (rd (bytesOf y) i) v))
def laws_FnStrings.tail (k : Nat) (l0 : List Int) (x y : ByteArray) : Option Bool :=
  (impl_VerifyChecksum.f k y).bind fun z => (laws_vAt.f l0 9).bind fun a => (laws_vAt.f l0 10).bind fun c =>
    if z = (x, true) ∧ 0 < y.size ∧ y.size ≤ 1048576 ∧ (0 ≤ a ∧ a ≤ 1048576) ∧ (0 ≤ c ∧ c ≤ 1048576) then
      (impl_VerifyChecksum.f k (flipAt y (Int.tmod a (y.size : Int)) (IntKind.u8.wrap (1 + Int.tmod c 255)))).bind fun v => if v.2 = false then some true else none
    else none
def laws_FnStrings.mid (k : Nat) (l0 : List Int) (n : Int) (p : ByteArray × Bool) (x : ByteArray) (y : ByteArray × Bool) : Option Bool :=
  (impl_ParseInt.f k p.1).bind fun b => if p.2 = true → b = (n, true) then (if y.2 = true then laws_FnStrings.tail k l0 x y.1 else if y.1 = ⟨#[]⟩ then some true else none) else none
def laws_FnStrings.f (k : Nat) (l0 : List Int) : Option Bool := (laws_vBig.f l0).bind fun big => if big = true then some true else
  (spec_DrawFormatInt.f l0).bind fun n => (impl_FormatInt.f k n).bind fun p => (spec_FormatInt.f k n).bind fun q => (spec_DrawParseInt.f k l0).bind fun t => (impl_ParseInt.f k t).bind fun m => (spec_ParseInt.f k t).bind fun m2 => (spec_DrawAppendChecksum.f l0).bind fun x => (impl_AppendChecksum.f k x).bind fun y => (spec_AppendChecksum.f k x).bind fun y2 =>
    if q = p ∧ m2 = m ∧ y2 = y then laws_FnStrings.mid k l0 n p x y else none
theorem laws_FnStrings.tail_out {k : Nat} {l0 : List Int} {x y : ByteArray} {r : Bool} (h : laws_FnStrings.tail k l0 x y = some r) : r = true ∧ ∃ a c z2, impl_VerifyChecksum.f k y = some (x, true) ∧ laws_vAt.f l0 9 = some a ∧ laws_vAt.f l0 10 = some c ∧ (0 < y.size ∧ y.size ≤ 1048576) ∧ (0 ≤ a ∧ a ≤ 1048576) ∧ (0 ≤ c ∧ c ≤ 1048576) ∧ impl_VerifyChecksum.f k (flipAt y (Int.tmod a (y.size : Int)) (IntKind.u8.wrap (1 + Int.tmod c 255))) = some (z2, false) := by
  unfold laws_FnStrings.tail at h
  obtain ⟨z, h1, h2⟩ := Option.bind_eq_some_iff.1 h
  obtain ⟨a, h3, h4⟩ := Option.bind_eq_some_iff.1 h2
  obtain ⟨c, h5, h6⟩ := Option.bind_eq_some_iff.1 h4
  by_cases g : z = (x, true) ∧ 0 < y.size ∧ y.size ≤ 1048576 ∧ (0 ≤ a ∧ a ≤ 1048576) ∧ (0 ≤ c ∧ c ≤ 1048576)
  · rw [if_pos g] at h6
    obtain ⟨v, h7, h8⟩ := Option.bind_eq_some_iff.1 h6
    by_cases g2 : v.2 = false
    · rw [if_pos g2] at h8
      obtain ⟨z2, b2⟩ := v
      have g3 : b2 = false := g2
      subst g3
      obtain ⟨g1, g4, g5, g6, g7⟩ := g
      rw [g1] at h1
      exact ⟨by simpa using h8.symm, a, c, z2, h1, h3, h5, ⟨g4, g5⟩, g6, g7, h7⟩
    · rw [if_neg g2] at h8; cases h8
  · rw [if_neg g] at h6; cases h6
theorem bytes_cell (w : World) (e : TypeId) (y : ByteArray) (j : Nat) (hj : j < y.size) : (Lib.bytesWorld w e y).cell? ⟨w.heap.size, j, none⟩ = some (.int .u8 (rd (bytesOf y) (j : Int))) := by
  rw [Lib.bytesWorld_cell w e y j hj]
  have h' : j < y.data.toList.length := by rw [data_length]; exact hj
  have h2 : j < (bytesOf y).length := by rw [bytesOf_length]; exact hj
  rw [rd_int (by omega) (by omega)]
  simp [bytesOf, List.getD_eq_getElem?_getD, List.getElem?_eq_getElem h']
theorem bytes_frozen (w : World) (e : TypeId) (y : ByteArray) (j : Nat) (hj : j < y.size) : (Lib.bytesWorld w e y).frozen? ⟨w.heap.size, j, none⟩ = false := by
  unfold World.frozen?
  rw [Lib.bytesWorld_at_new]
  have h3 : y.size ≤ (Lib.bytesCells w e y).size := by
    unfold Lib.bytesCells
    rw [Array.size_append, Array.size_map]
    exact Nat.le_add_right _ _
  simp
  omega
theorem set_cell {wb : World} {g n ix m : Nat} {l : List Int} {v : Int} (hl : l.length = n) (h : ∀ j, j < n → wb.cell? ⟨g, j, none⟩ = some (.int .u8 (rd l (j : Int)))) (_ : True) {i : Nat} (hi : i < n) : ((wb.drewN m).setCell ⟨g, ix, none⟩ (.int .u8 v)).cell? ⟨g, 0 + i, none⟩ = some (.int .u8 ((l.set ix v).getD i 0)) := by
  have h0 : (wb.drewN m).cell? ⟨g, i, none⟩ = some (.int .u8 (rd l (i : Int))) := h i hi
  rw [Nat.zero_add, List.getD_eq_getElem?_getD, List.getElem?_eq_getElem (by rw [List.length_set]; omega), Option.getD_some, List.getElem_set]
  by_cases e : ix = i
  · subst e
    rw [if_pos rfl]
    exact World.cell?_setCell_same _ _ _ h0
  · rw [if_neg e]
    refine (World.cell?_setCell_other _ _ _ _ ?_).trans (h0.trans ?_)
    · intro h; injection h with _ h; exact e h
    · rw [rd_int (by omega) (by omega)]; simp
theorem leO_bind {α β : Type} {g g' : Option α} {f f' : α → Option β} (h : LeO g g') (hf : ∀ a, LeO (f a) (f' a)) : LeO (g.bind f) (g'.bind f') := by
  intro r e
  obtain ⟨a, h1, h2⟩ := Option.bind_eq_some_iff.1 e
  rw [h _ h1, Option.bind_some]
  exact hf a _ h2
theorem leO_if {α : Type} {p : Prop} [Decidable p] {a a' b b' : Option α} (h : LeO a a') (h' : LeO b b') : LeO (if p then a else b) (if p then a' else b') := by
  split
  · exact h
  · exact h'
theorem leO_rfl {α : Type} (a : Option α) : LeO a a := fun _ h => h
theorem laws_FnStrings.mono : ∀ l0 k, LeO (laws_FnStrings.f k l0) (laws_FnStrings.f (k + 1) l0) := by
  intro l0 k
  unfold laws_FnStrings.f
  refine leO_bind (leO_rfl _) fun big => leO_if (leO_rfl _) ?_
  refine leO_bind (leO_rfl _) fun n => leO_bind (impl_FormatInt.mono _ _) fun p => leO_bind (spec_FormatInt.mono _ _) fun q => leO_bind (spec_DrawParseInt.mono _ _) fun t => leO_bind (impl_ParseInt.mono _ _) fun m => leO_bind (spec_ParseInt.mono _ _) fun m2 => leO_bind (leO_rfl _) fun x => leO_bind (impl_AppendChecksum.mono _ _) fun y => leO_bind (spec_AppendChecksum.mono _ _) fun y2 => leO_if ?_ (leO_rfl _)
  unfold laws_FnStrings.mid
  refine leO_bind (impl_ParseInt.mono _ _) fun b => leO_if (leO_if ?_ (leO_rfl _)) (leO_rfl _)
  unfold laws_FnStrings.tail
  exact leO_bind (impl_VerifyChecksum.mono _ _) fun z => leO_bind (leO_rfl _) fun a => leO_bind (leO_rfl _) fun c => leO_if (leO_bind (impl_VerifyChecksum.mono _ _) fun v => leO_rfl _) (leO_rfl _)
set_option maxHeartbeats 8000000 in
set_option maxRecDepth 100000 in
theorem laws_FnStrings.calls (k : Nat) (A0 : Option Addr) (c0 : Nat) (l0 : List Int) (r : Bool) (w : World) (hr0 : Kd.C (Kd.int .u8) w A0 l0.length l0) (hc0 : l0.length ≤ c0) (h : laws_FnStrings.f k l0 = some r) :
    Calls Try.prog 8 #[.slice A0 l0.length c0] w fun e w' => e = .returned (.bool r) ∧ Below w.heap.size w w' := by
  unfold laws_FnStrings.f at h
  obtain ⟨big, h1, h2⟩ := Option.bind_eq_some_iff.1 h
  clear h
  have HR0 := Aside0.mk hr0
  have HC0 := Aside0.mk hc0
  have H1 := Aside0.mk h1
  have H2 := Aside0.mk h2
  have HB := Aside0.mk (Below.refl w.heap.size w)
  clear hr0 hc0 h1 h2
  go_enter Try.func8, Try.ntmps8
  go_wp2_with (fail)
  refine (laws_vBig.calls _ _ l0 big _ (Kd.C_below HR0.out (by repeat (first | exact HB.out | apply below_alloc | apply pw_below_drewN | apply below_drew1))) HC0.out H1.out).mono ?_
  rintro e w2 ⟨rfl, hb⟩
  dsimp only
  have HB2 := Aside0.mk (below_step (by repeat (first | exact HB.out | apply below_alloc | apply pw_below_drewN | apply below_drew1)) hb.below)
  clear HB hb
  have HB := HB2
  clear HB2
  cases big with
  | true =>
    obtain rfl : true = r := by have := H2.out; simpa using this
    go_wp2
    go_ret
    exact ⟨rfl, by repeat (first | exact HB.out | apply below_alloc | apply pw_below_drewN | apply below_drew1)⟩
  | false =>
  have h2 := H2.out
  rw [if_neg (by simp)] at h2
  clear H2
  obtain ⟨n, h3, h4⟩ := Option.bind_eq_some_iff.1 h2
  clear h2
  have h2 := h4
  have H3 := Aside0.mk h3
  have H2 := Aside0.mk h2
  clear h2 h3 h4
  go_wp2_with (fail)
  refine (spec_DrawFormatInt.calls _ _ l0 n _ (Kd.C_below HR0.out (by repeat (first | exact HB.out | apply below_alloc | apply pw_below_drewN | apply below_drew1))) HC0.out H3.out).mono ?_
  rintro e w2 ⟨rfl, hb⟩
  dsimp only
  have HB2 := Aside0.mk (below_step (by repeat (first | exact HB.out | apply below_alloc | apply pw_below_drewN | apply below_drew1)) hb)
  clear HB hb H3
  have HB := HB2
  clear HB2
  have h2 := H2.out
  clear H2
  obtain ⟨⟨s, ok⟩, h3, h4⟩ := Option.bind_eq_some_iff.1 h2
  clear h2
  have h2 := h4
  have H3 := Aside0.mk h3
  have H2 := Aside0.mk h2
  clear h2 h3 h4
  go_wp2_with (fail)
  refine (impl_FormatInt.calls k n s ok _ H3.out).mono ?_
  rintro e w2 ⟨rfl, hb⟩
  dsimp only
  have HB2 := Aside0.mk (below_step (by repeat (first | exact HB.out | apply below_alloc | apply pw_below_drewN | apply below_drew1)) hb)
  clear HB hb H3
  have HB := HB2
  clear HB2
  have h2 := H2.out
  clear H2
  obtain ⟨⟨s2, ok2⟩, h3, h4⟩ := Option.bind_eq_some_iff.1 h2
  clear h2
  have h2 := h4
  have H3 := Aside0.mk h3
  have H2 := Aside0.mk h2
  clear h2 h3 h4
  go_wp2_with (fail)
  refine (spec_FormatInt.calls k n s2 ok2 _ H3.out).mono ?_
  rintro e w2 ⟨rfl, hb⟩
  dsimp only
  have HB2 := Aside0.mk (below_step (by repeat (first | exact HB.out | apply below_alloc | apply pw_below_drewN | apply below_drew1)) hb)
  clear HB hb H3
  have HB := HB2
  clear HB2
  have h2 := H2.out
  clear H2
  obtain ⟨t, h3, h4⟩ := Option.bind_eq_some_iff.1 h2
  clear h2
  have h2 := h4
  have H3 := Aside0.mk h3
  have H2 := Aside0.mk h2
  clear h2 h3 h4
  go_wp2_with (fail)
  refine (spec_DrawParseInt.calls k _ _ l0 t _ (Kd.C_below HR0.out (by repeat (first | exact HB.out | apply below_alloc | apply pw_below_drewN | apply below_drew1))) HC0.out H3.out).mono ?_
  rintro e w2 ⟨rfl, hb⟩
  dsimp only
  have HB2 := Aside0.mk (below_step (by repeat (first | exact HB.out | apply below_alloc | apply pw_below_drewN | apply below_drew1)) hb)
  clear HB hb H3
  have HB := HB2
  clear HB2
  have h2 := H2.out
  clear H2
  obtain ⟨⟨m, fine⟩, h3, h4⟩ := Option.bind_eq_some_iff.1 h2
  clear h2
  have h2 := h4
  have H3 := Aside0.mk h3
  have H2 := Aside0.mk h2
  clear h2 h3 h4
  go_wp2_with (fail)
  refine (impl_ParseInt.calls k t m fine _ H3.out).mono ?_
  rintro e w2 ⟨rfl, hb⟩
  dsimp only
  have HB2 := Aside0.mk (below_step (by repeat (first | exact HB.out | apply below_alloc | apply pw_below_drewN | apply below_drew1)) hb.below)
  clear HB hb H3
  have HB := HB2
  clear HB2
  have h2 := H2.out
  clear H2
  obtain ⟨⟨m2, fine2⟩, h3, h4⟩ := Option.bind_eq_some_iff.1 h2
  clear h2
  have h2 := h4
  have H3 := Aside0.mk h3
  have H2 := Aside0.mk h2
  clear h2 h3 h4
  go_wp2_with (fail)
  refine (spec_ParseInt.calls k t m2 fine2 _ H3.out).mono ?_
  rintro e w2 ⟨rfl, hb⟩
  dsimp only
  have HB2 := Aside0.mk (below_step (by repeat (first | exact HB.out | apply below_alloc | apply pw_below_drewN | apply below_drew1)) hb)
  clear HB hb H3
  have HB := HB2
  clear HB2
  have h2 := H2.out
  clear H2
  obtain ⟨x, h3, h4⟩ := Option.bind_eq_some_iff.1 h2
  clear h2
  have h2 := h4
  have H3 := Aside0.mk h3
  have H2 := Aside0.mk h2
  clear h2 h3 h4
  go_wp2_with (fail)
  refine (spec_DrawAppendChecksum.calls _ _ l0 x _ (Kd.C_below HR0.out (by repeat (first | exact HB.out | apply below_alloc | apply pw_below_drewN | apply below_drew1))) HC0.out H3.out).mono ?_
  rintro e w2 ⟨rfl, hb⟩
  dsimp only
  have HB2 := Aside0.mk (below_step (by repeat (first | exact HB.out | apply below_alloc | apply pw_below_drewN | apply below_drew1)) hb)
  clear HB hb H3
  have HB := HB2
  clear HB2
  have h2 := H2.out
  clear H2
  obtain ⟨⟨y, sealed_⟩, h3, h4⟩ := Option.bind_eq_some_iff.1 h2
  clear h2
  have h2 := h4
  have H3 := Aside0.mk h3
  have H2 := Aside0.mk h2
  clear h2 h3 h4
  go_wp2_with (fail)
  refine (impl_AppendChecksum.calls k x y sealed_ _ H3.out).mono ?_
  rintro e w2 ⟨rfl, hb⟩
  dsimp only
  have HB2 := Aside0.mk (below_step (by repeat (first | exact HB.out | apply below_alloc | apply pw_below_drewN | apply below_drew1)) hb)
  clear HB hb H3
  have HB := HB2
  clear HB2
  have h2 := H2.out
  clear H2
  obtain ⟨⟨y2, sealed2⟩, h3, h4⟩ := Option.bind_eq_some_iff.1 h2
  clear h2
  have h2 := h4
  have H3 := Aside0.mk h3
  have H2 := Aside0.mk h2
  clear h2 h3 h4
  go_wp2_with (fail)
  refine (spec_AppendChecksum.calls k x y2 sealed2 _ H3.out).mono ?_
  rintro e w2 ⟨rfl, hb⟩
  dsimp only
  have HB2 := Aside0.mk (below_step (by repeat (first | exact HB.out | apply below_alloc | apply pw_below_drewN | apply below_drew1)) hb)
  clear HB hb H3
  have HB := HB2
  clear HB2
  have h2 := H2.out
  clear H2
  split at h2
  case isFalse => cases h2
  case isTrue hg =>
  obtain ⟨hg1, hg2, hg3⟩ := hg
  obtain ⟨rfl, rfl⟩ := Prod.mk.inj hg1
  obtain ⟨rfl, rfl⟩ := Prod.mk.inj hg2
  obtain ⟨rfl, rfl⟩ := Prod.mk.inj hg3
  clear hg1 hg2 hg3
  unfold laws_FnStrings.mid at h2
  obtain ⟨⟨back, there⟩, h3, h4⟩ := Option.bind_eq_some_iff.1 h2
  split at h4
  case isFalse => cases h4
  case isTrue hg =>
  have H3 := Aside0.mk h3
  have H4 := Aside0.mk h4
  have HG := Aside0.mk hg
  clear h2 h3 h4 hg
  go_wp2_with (fail)
  refine (impl_ParseInt.calls k s2 back there _ H3.out).mono ?_
  rintro e w2 ⟨rfl, hb⟩
  dsimp only
  have HB2 := Aside0.mk (below_step (by repeat (first | exact HB.out | apply below_alloc | apply pw_below_drewN | apply below_drew1)) hb.below)
  clear HB hb H3
  have HB := HB2
  clear HB2
  cases ok2 with
  | true =>
    obtain ⟨rfl, rfl⟩ := Prod.mk.inj (HG.out rfl)
    cases sealed2 with
    | false =>
      obtain ⟨rfl, rfl⟩ : y2 = ⟨#[]⟩ ∧ true = r := by
        have h4 := H4.out
        rw [if_neg (by simp)] at h4
        split at h4
        · rename_i hy
          exact ⟨hy, by simpa using h4⟩
        · cases h4
      go_wp2
      go_ret
      exact ⟨by first | rfl | simp, by repeat (first | exact HB.out | apply below_alloc | apply pw_below_drewN | apply below_drew1)⟩
    | true =>
      have h2 := H4.out
      rw [if_pos rfl] at h2
      obtain ⟨rfl, a, c, z2, h3, h5, h6, hs, ha, hc, h7⟩ := laws_FnStrings.tail_out h2
      have H3 := Aside0.mk h3
      have H5 := Aside0.mk h5
      have H6 := Aside0.mk h6
      have H7 := Aside0.mk h7
      have HS := Aside0.mk hs
      have HA := Aside0.mk ha
      have HC := Aside0.mk hc
      clear h2 h3 h5 h6 h7 hs ha hc H4 HG
      go_wp2_with (fail)
      refine (impl_VerifyChecksum.calls k y2 x true _ H3.out).mono ?_
      rintro e w2 ⟨rfl, hb⟩
      dsimp only
      have HB2 := Aside0.mk (below_step (by repeat (first | exact HB.out | apply below_alloc | apply pw_below_drewN | apply below_drew1)) hb)
      clear HB hb H3
      have HB := HB2
      clear HB2
      have kb := fun W => print_bytes (P := Try.prog) 9 48 5 Try.underlying9 Try.underlying48 Try.underlying5 y2 W
      go_wp2_with (fail)
      obtain ⟨wb, hwb⟩ : ∃ W_, W_ = Lib.bytesWorld w2 5 y2 := ⟨_, rfl⟩
      rw [← hwb]
      have HBb : Aside0 (Below w.heap.size w wb) := ⟨by rw [hwb]; exact bytes_below HB.out (below_size HB.out) 5 y2⟩
      obtain ⟨g, hg⟩ : ∃ g_, g_ = w2.heap.size := ⟨_, rfl⟩
      rw [← hg]
      obtain ⟨cap, hcap⟩ : ∃ c_, c_ = grownCap w2 y2.size 0 5 := ⟨_, rfl⟩
      rw [← hcap]
      have CB : Aside0 (∀ j, j < y2.size → wb.cell? ⟨g, j, none⟩ = some (.int .u8 (rd (bytesOf y2) (j : Int)))) := ⟨fun j hj => by rw [hwb, hg]; exact bytes_cell w2 5 y2 j hj⟩
      have FB : Aside0 (∀ j, j < y2.size → wb.frozen? ⟨g, j, none⟩ = false) := ⟨fun j hj => by rw [hwb, hg]; exact bytes_frozen w2 5 y2 j hj⟩
      have HGW : Aside0 (w.heap.size ≤ g) := ⟨by rw [hg]; exact below_size HB.out⟩
      clear hwb hg hcap kb HB
      refine (laws_vAt.calls _ _ l0 9 a _ (Kd.C_below HR0.out (by repeat (first | exact HBb.out | apply below_alloc | apply pw_below_drewN | apply below_drew1))) HC0.out H5.out).mono ?_
      rintro e w3 ⟨rfl, hd⟩
      dsimp only
      obtain ⟨⟨nd, rfl⟩⟩ := hd
      obtain ⟨ix, hix⟩ : ∃ i_, i_ = Int.tmod a (y2.size : Int) := ⟨_, rfl⟩
      have HIX : Aside0 (0 ≤ ix ∧ ix < (y2.size : Int)) := ⟨by rw [hix]; exact ⟨Int.tmod_nonneg _ HA.out.1, Int.tmod_lt_of_pos _ (by have := HS.out; omega)⟩⟩
      have HIE := Aside0.mk hix
      have hz0 : ¬ ((y2.size : Int) = 0) := by have := HS.out; omega
      clear hix
      go_wp2_with (fail)
      rw [← HIE.out]
      obtain ⟨bv, hbv⟩ : ∃ b_, rd (bytesOf y2) ix = b_ := ⟨_, rfl⟩
      have hx0 : wb.cell? ⟨g, ix.toNat, none⟩ = some (.int .u8 bv) := by
        have h := CB.out ix.toNat (by have := HIX.out; omega)
        rw [show ((ix.toNat : Nat) : Int) = ix by have := HIX.out; omega, hbv] at h
        exact h
      have hf0 : wb.frozen? ⟨g, ix.toNat, none⟩ = false := FB.out ix.toNat (by have := HIX.out; omega)
      obtain ⟨c1, hc1⟩ : ∃ i_, i_ = Int.tmod c 255 := ⟨_, rfl⟩
      have HC1 : Aside0 (0 ≤ c1 ∧ c1 < 255) := ⟨by rw [hc1]; exact ⟨Int.tmod_nonneg _ HC.out.1, Int.tmod_lt_of_pos _ (by omega)⟩⟩
      have HCE := Aside0.mk hc1
      have hw1 : IntKind.i64.wrap (1 + c1) = 1 + c1 := (i64_w _).trans (by unfold wrap64; have := HC1.out; omega)
      have HBV := Aside0.mk hbv
      have p1 : 0 ≤ ix := HIX.out.1
      have q1 : ix < (y2.size : Int) := HIX.out.2
      replace p1 := eq_true p1
      replace q1 := eq_true q1
      clear hc1 hbv hz0
      go_region_law (first | (go_simp; go_at_call 42; refine (laws_vAt.calls _ _ l0 10 c _ ?side HC0.out H6.out).mono ?_; (case side => exact Kd.C_below HR0.out (by repeat (first | exact HBb.out | apply below_alloc | apply pw_below_drewN | apply below_drew1))); rintro e w4 ⟨rfl, ⟨⟨n_, rfl⟩⟩⟩))
      all_goals
        generalize hws : World.setCell _ _ _ = ws
        have HXS : Aside0 (strOfNums ((bytesOf y2).set ix.toNat (Go.bits .xor .u8 bv (IntKind.u8.wrap (IntKind.i64.wrap (1 + Int.tmod c 255))))) = flipAt y2 (Int.tmod a (y2.size : Int)) (IntKind.u8.wrap (1 + Int.tmod c 255))) := ⟨by unfold flipAt; rw [← HIE.out, HBV.out, ← HCE.out, hw1]⟩
        have HBs : Aside0 (Below w.heap.size w ws) := ⟨by rw [← hws]; exact below_set (by repeat (first | exact HBb.out | apply below_alloc | apply pw_below_drewN | apply below_drew1)) HGW.out⟩
        obtain ⟨xs, hxs⟩ : ∃ l_, l_ = (bytesOf y2).set ix.toNat (Go.bits .xor .u8 bv (IntKind.u8.wrap (IntKind.i64.wrap (1 + Int.tmod c 255)))) := ⟨_, rfl⟩
        have HXL : xs.length = y2.size := by rw [hxs, List.length_set, bytesOf_length]
        have CS : ∀ i, i < y2.size → ws.cell? ⟨g, 0 + i, none⟩ = some (.int .u8 (xs.getD i 0)) := fun i hi => by
          rw [← hws, hxs]; exact set_cell (bytesOf_length y2) CB.out trivial hi
        have kb2 := run_convert_bytes_arg (P := Try.prog) ws 48 5 Try.underlying48 Try.underlying5 g 0 y2.size cap xs HXL CS 9 Try.underlying9
        rw [← hxs] at HXS
        clear hws hxs hx0 hf0 hw1 p1 q1 CS HXL HBb CB FB
        go_wp2_with (fail)
        refine (impl_VerifyChecksum.calls k (strOfNums xs) z2 false _ (by rw [HXS.out]; exact H7.out)).mono ?_
        rintro e w5 ⟨rfl, hb⟩
        dsimp only
        have HB5 := Aside0.mk (below_step (by repeat (first | exact HBs.out | apply below_alloc | apply pw_below_drewN | apply below_drew1)) hb)
        clear kb2 hb
        go_wp2
        go_ret
        exact ⟨by first | rfl | simp, by repeat (first | exact HB5.out | apply below_alloc | apply pw_below_drewN | apply below_drew1)⟩
  | false =>
    cases sealed2 with
    | false =>
      obtain ⟨rfl, rfl⟩ : y2 = ⟨#[]⟩ ∧ true = r := by
        have h4 := H4.out
        rw [if_neg (by simp)] at h4
        split at h4
        · rename_i hy
          exact ⟨hy, by simpa using h4⟩
        · cases h4
      go_wp2
      go_ret
      exact ⟨by first | rfl | simp, by repeat (first | exact HB.out | apply below_alloc | apply pw_below_drewN | apply below_drew1)⟩
    | true =>
      have h2 := H4.out
      rw [if_pos rfl] at h2
      obtain ⟨rfl, a, c, z2, h3, h5, h6, hs, ha, hc, h7⟩ := laws_FnStrings.tail_out h2
      have H3 := Aside0.mk h3
      have H5 := Aside0.mk h5
      have H6 := Aside0.mk h6
      have H7 := Aside0.mk h7
      have HS := Aside0.mk hs
      have HA := Aside0.mk ha
      have HC := Aside0.mk hc
      clear h2 h3 h5 h6 h7 hs ha hc H4 HG
      go_wp2_with (fail)
      refine (impl_VerifyChecksum.calls k y2 x true _ H3.out).mono ?_
      rintro e w2 ⟨rfl, hb⟩
      dsimp only
      have HB2 := Aside0.mk (below_step (by repeat (first | exact HB.out | apply below_alloc | apply pw_below_drewN | apply below_drew1)) hb)
      clear HB hb H3
      have HB := HB2
      clear HB2
      have kb := fun W => print_bytes (P := Try.prog) 9 48 5 Try.underlying9 Try.underlying48 Try.underlying5 y2 W
      go_wp2_with (fail)
      obtain ⟨wb, hwb⟩ : ∃ W_, W_ = Lib.bytesWorld w2 5 y2 := ⟨_, rfl⟩
      rw [← hwb]
      have HBb : Aside0 (Below w.heap.size w wb) := ⟨by rw [hwb]; exact bytes_below HB.out (below_size HB.out) 5 y2⟩
      obtain ⟨g, hg⟩ : ∃ g_, g_ = w2.heap.size := ⟨_, rfl⟩
      rw [← hg]
      obtain ⟨cap, hcap⟩ : ∃ c_, c_ = grownCap w2 y2.size 0 5 := ⟨_, rfl⟩
      rw [← hcap]
      have CB : Aside0 (∀ j, j < y2.size → wb.cell? ⟨g, j, none⟩ = some (.int .u8 (rd (bytesOf y2) (j : Int)))) := ⟨fun j hj => by rw [hwb, hg]; exact bytes_cell w2 5 y2 j hj⟩
      have FB : Aside0 (∀ j, j < y2.size → wb.frozen? ⟨g, j, none⟩ = false) := ⟨fun j hj => by rw [hwb, hg]; exact bytes_frozen w2 5 y2 j hj⟩
      have HGW : Aside0 (w.heap.size ≤ g) := ⟨by rw [hg]; exact below_size HB.out⟩
      clear hwb hg hcap kb HB
      refine (laws_vAt.calls _ _ l0 9 a _ (Kd.C_below HR0.out (by repeat (first | exact HBb.out | apply below_alloc | apply pw_below_drewN | apply below_drew1))) HC0.out H5.out).mono ?_
      rintro e w3 ⟨rfl, hd⟩
      dsimp only
      obtain ⟨⟨nd, rfl⟩⟩ := hd
      obtain ⟨ix, hix⟩ : ∃ i_, i_ = Int.tmod a (y2.size : Int) := ⟨_, rfl⟩
      have HIX : Aside0 (0 ≤ ix ∧ ix < (y2.size : Int)) := ⟨by rw [hix]; exact ⟨Int.tmod_nonneg _ HA.out.1, Int.tmod_lt_of_pos _ (by have := HS.out; omega)⟩⟩
      have HIE := Aside0.mk hix
      have hz0 : ¬ ((y2.size : Int) = 0) := by have := HS.out; omega
      clear hix
      go_wp2_with (fail)
      rw [← HIE.out]
      obtain ⟨bv, hbv⟩ : ∃ b_, rd (bytesOf y2) ix = b_ := ⟨_, rfl⟩
      have hx0 : wb.cell? ⟨g, ix.toNat, none⟩ = some (.int .u8 bv) := by
        have h := CB.out ix.toNat (by have := HIX.out; omega)
        rw [show ((ix.toNat : Nat) : Int) = ix by have := HIX.out; omega, hbv] at h
        exact h
      have hf0 : wb.frozen? ⟨g, ix.toNat, none⟩ = false := FB.out ix.toNat (by have := HIX.out; omega)
      obtain ⟨c1, hc1⟩ : ∃ i_, i_ = Int.tmod c 255 := ⟨_, rfl⟩
      have HC1 : Aside0 (0 ≤ c1 ∧ c1 < 255) := ⟨by rw [hc1]; exact ⟨Int.tmod_nonneg _ HC.out.1, Int.tmod_lt_of_pos _ (by omega)⟩⟩
      have HCE := Aside0.mk hc1
      have hw1 : IntKind.i64.wrap (1 + c1) = 1 + c1 := (i64_w _).trans (by unfold wrap64; have := HC1.out; omega)
      have HBV := Aside0.mk hbv
      have p1 : 0 ≤ ix := HIX.out.1
      have q1 : ix < (y2.size : Int) := HIX.out.2
      replace p1 := eq_true p1
      replace q1 := eq_true q1
      clear hc1 hbv hz0
      go_region_law (first | (go_simp; go_at_call 42; refine (laws_vAt.calls _ _ l0 10 c _ ?side HC0.out H6.out).mono ?_; (case side => exact Kd.C_below HR0.out (by repeat (first | exact HBb.out | apply below_alloc | apply pw_below_drewN | apply below_drew1))); rintro e w4 ⟨rfl, ⟨⟨n_, rfl⟩⟩⟩))
      all_goals
        generalize hws : World.setCell _ _ _ = ws
        have HXS : Aside0 (strOfNums ((bytesOf y2).set ix.toNat (Go.bits .xor .u8 bv (IntKind.u8.wrap (IntKind.i64.wrap (1 + Int.tmod c 255))))) = flipAt y2 (Int.tmod a (y2.size : Int)) (IntKind.u8.wrap (1 + Int.tmod c 255))) := ⟨by unfold flipAt; rw [← HIE.out, HBV.out, ← HCE.out, hw1]⟩
        have HBs : Aside0 (Below w.heap.size w ws) := ⟨by rw [← hws]; exact below_set (by repeat (first | exact HBb.out | apply below_alloc | apply pw_below_drewN | apply below_drew1)) HGW.out⟩
        obtain ⟨xs, hxs⟩ : ∃ l_, l_ = (bytesOf y2).set ix.toNat (Go.bits .xor .u8 bv (IntKind.u8.wrap (IntKind.i64.wrap (1 + Int.tmod c 255)))) := ⟨_, rfl⟩
        have HXL : xs.length = y2.size := by rw [hxs, List.length_set, bytesOf_length]
        have CS : ∀ i, i < y2.size → ws.cell? ⟨g, 0 + i, none⟩ = some (.int .u8 (xs.getD i 0)) := fun i hi => by
          rw [← hws, hxs]; exact set_cell (bytesOf_length y2) CB.out trivial hi
        have kb2 := run_convert_bytes_arg (P := Try.prog) ws 48 5 Try.underlying48 Try.underlying5 g 0 y2.size cap xs HXL CS 9 Try.underlying9
        rw [← hxs] at HXS
        clear hws hxs hx0 hf0 hw1 p1 q1 CS HXL HBb CB FB
        go_wp2_with (fail)
        refine (impl_VerifyChecksum.calls k (strOfNums xs) z2 false _ (by rw [HXS.out]; exact H7.out)).mono ?_
        rintro e w5 ⟨rfl, hb⟩
        dsimp only
        have HB5 := Aside0.mk (below_step (by repeat (first | exact HBs.out | apply below_alloc | apply pw_below_drewN | apply below_drew1)) hb)
        clear kb2 hb
        go_wp2
        go_ret
        exact ⟨by first | rfl | simp, by repeat (first | exact HB5.out | apply below_alloc | apply pw_below_drewN | apply below_drew1)⟩

end Go.Proofs.Ytphgpffgidfmmaa.XFnStrings
