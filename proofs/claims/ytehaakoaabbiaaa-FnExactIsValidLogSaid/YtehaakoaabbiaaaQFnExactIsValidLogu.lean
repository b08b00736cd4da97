/- Proved here: what functions that the law FnExactIsValidLog reaches answer (spec_l1Split, fstI, decodeBoth, openBoth). Conditions: those that each theorem names. -/
import Derived.Test.YtehaakoaabbiaaaQFnExactIsValidLogr
set_option linter.unusedVariables false
set_option linter.unusedSimpArgs false
namespace Go.Proofs.Ytehaakoaabbiaaa.Pure
open Go.RowKit Go.Proofs.Ytehaakoaabbiaaa.XFnExactIsValidLog Go.Proofs.YtehaakoaabbiaaaW.PrintWords Go.Proofs.YtehaakoaabbiaaaW.PrintLast

theorem spec_l1Split.ev (s : ByteArray) (b : Int) (hs : s.size ≤ 1000000000000) : Ev (fun k => spec_l1Split.f k s b) (splitP s b 0 0) := by
  have key : ∀ i, i ≤ s.size → ∀ (out : List ByteArray) (fr : Nat), fr ≤ i → out.length ≤ i → Ev (fun k => spec_l1Split.l0 k s b out (fr : Int) (i : Int)) (out ++ splitP s b fr i) := by
    refine rev_ind s.size (fun out fr hf ho => ?_) (fun i hi ih out fr hf ho => ?_)
    · rw [splitP_end (by omega)]
      refine ev_stop fun k => ?_
      simp only [spec_l1Split.l0]; rw [if_neg (by omega), if_pos (by omega), if_pos (by omega), if_pos (by omega)]
      simp
    · by_cases e : bt s (i : Int) = b
      · rw [splitP_hit hi e]
        have := ih (out ++ [s.extract fr i]) (i + 1) (Nat.le_refl _) (by simp; omega)
        rw [List.append_assoc] at this
        refine ev_go _ (fun k => ?_) this
        simp only [spec_l1Split.l0]; rw [if_pos (by omega), if_pos (by omega), if_pos e, if_pos (by omega), if_pos (by omega), if_pos (by omega), if_pos (by omega), wr1 (by omega)]
        simp
      · rw [splitP_miss hi e]
        refine ev_go _ (fun k => ?_) (ih out fr (by omega) (by omega))
        simp only [spec_l1Split.l0]; rw [if_pos (by omega), if_pos (by omega), if_neg e, wr1 (by omega)]
  simpa [spec_l1Split.f] using key 0 (Nat.zero_le _) [] 0 (Nat.le_refl _) (Nat.le_refl _)

/-- The first place of a byte from a place on, or the end. -/
def fstI (s : ByteArray) (b : Int) (i : Nat) : Nat := if i < s.size then (if bt s (i : Int) = b then i else fstI s b (i + 1)) else i
termination_by s.size - i
theorem fstI_ge (s : ByteArray) (b : Int) : ∀ i, i ≤ s.size → i ≤ fstI s b i ∧ fstI s b i ≤ s.size := by
  refine rev_ind s.size (by rw [fstI, if_neg (by omega)]; omega) (fun i hi ih => ?_)
  rw [fstI, if_pos hi]
  split
  · omega
  · omega
theorem splitP_head (s : ByteArray) (b : Int) : ∀ i, i ≤ s.size → ∀ fr, ∃ r, splitP s b fr i = s.extract fr (fstI s b i) :: r ∧ (r ≠ [] ↔ fstI s b i < s.size) := by
  refine rev_ind s.size (fun fr => ?_) (fun i hi ih fr => ?_)
  · refine ⟨[], ?_, ?_⟩
    · rw [splitP_end (by omega), fstI, if_neg (by omega)]
    · rw [fstI, if_neg (by omega)]; simp
  · by_cases e : bt s (i : Int) = b
    · refine ⟨splitP s b (i + 1) (i + 1), ?_, ?_⟩
      · rw [splitP_hit hi e, fstI, if_pos hi, if_pos e]
      · rw [fstI, if_pos hi, if_pos e]
        have := splitP_pos s b (i + 1) hi (i + 1)
        exact ⟨fun _ => hi, fun _ => List.ne_nil_of_length_pos this⟩
    · rw [splitP_miss hi e, fstI, if_pos hi, if_neg e]
      exact ih fr
theorem bt_ext (s : ByteArray) (a i : Nat) (ha : a ≤ s.size) (hi : i < s.size - a) : bt (s.extract a s.size) (i : Int) = bt s ((a + i : Nat) : Int) := by
  have h1 : i < (s.extract a s.size).size := by rw [ByteArray.size_extract]; omega
  have h2 : a + i < s.size := by omega
  simp only [bt, Int.toNat_natCast]
  rw [dif_pos h1, dif_pos h2, ByteArray.getElem_extract]
theorem fstI_ext (s : ByteArray) (b : Int) (a : Nat) (ha : a ≤ s.size) : ∀ i, i ≤ s.size - a → a + fstI (s.extract a s.size) b i = fstI s b (a + i) := by
  have hz : (s.extract a s.size).size = s.size - a := by rw [ByteArray.size_extract]; omega
  refine rev_ind (s.size - a) ?_ (fun i hi ih => ?_)
  · rw [fstI, if_neg (by omega), fstI, if_neg (by omega)]
  · rw [fstI, if_pos (show i < (s.extract a s.size).size by omega), fstI.eq_1 s, if_pos (show a + i < s.size by omega), bt_ext s a i ha hi]
    by_cases e : bt s ((a + i : Nat) : Int) = b
    · rw [if_pos e, if_pos e]
    · rw [if_neg e, if_neg e, ih, Nat.add_assoc]
/-- The head of a split text. -/
theorem head_size (s : ByteArray) (b : Int) : (rdOf ByteArray.empty (splitP s b 0 0) 0).size ≤ s.size := by
  obtain ⟨r, h, _⟩ := splitP_head s b 0 (Nat.zero_le _) 0
  rw [h]
  simp only [rdOf]
  show (s.extract 0 (fstI s b 0)).size ≤ s.size
  rw [ByteArray.size_extract]; omega

theorem decode_both (s : ByteArray) (n : Nat) (hn : n ≤ 59) (hs : s.size ≤ 10000000) : ∃ (c r : ByteArray) (ok : Bool), Ev (fun k => spec_l12Decode.f k s (n : Int)) (c, r, ok) ∧ Ev (fun k => impl_decode.f k (n : Int) s) (c, r, ok) ∧ (ok = true → s.size ≤ 399) := by
  have hz := numP_small (n := n) (by omega)
  have hx := head_size s 35
  have hp := splitP_pos s 35 0 (Nat.zero_le _) 0
  unfold spec_l12Decode.f impl_decode.f
  have e1 := spec_l1Num.ev n (by omega)
  have e2 := impl_text.ev n (by omega)
  have f1 := spec_l1Split.ev s 35 (by omega)
  have f2 := impl_split.ev s 35 (by omega)
  generalize splitP s 35 0 0 = parts at hp hx f1 f2
  have hA : (numP n ++ (⟨#[32]⟩ : ByteArray)).size ≤ 7 := by rw [ByteArray.size_append, sz1]; omega
  have g : (numP n).size + 1 ≤ 9223372036854775807 := by omega
  have g2 : 0 < (parts.length : Int) := by omega
  generalize hAe : numP n ++ (⟨#[32]⟩ : ByteArray) = A at hA
  generalize hXe : rdOf ByteArray.empty parts 0 = X at hx
  by_cases c1 : (X.size : Int) < (A.size : Int)
  · refine ⟨⟨#[]⟩, ⟨#[]⟩, false, ev_bind _ e1 ?_, ev_bind _ e2 ?_, by simp⟩
    · simp only [if_pos g, hAe]; refine ev_bind _ f1 ?_
      simp only [if_pos g2, hXe, if_pos c1]
      exact ev_stop fun k => by simp only [spec_l12Decode.j0]; rw [if_pos trivial]
    · simp only [if_pos g, hAe]; refine ev_bind _ f2 ?_
      simp only [if_pos g2, hXe, if_pos c1]
      exact ev_stop fun k => by simp only [impl_decode.j0]; rw [if_pos trivial]
  · have c2 : 0 ≤ (A.size : Int) := by omega
    have c3 : (A.size : Int) ≤ (X.size : Int) := by omega
    generalize hq : ((X.extract 0 ((A.size : Int) : Int).toNat).toList != A.toList) = q
    have up1 : ∀ z, Ev (fun k => spec_l12Decode.j0 k s (n : Int) A X q) z → Ev (fun k => (spec_l1Num.f k (n : Int)).bind fun t123 => (if t123.size + 1 ≤ 9223372036854775807 then ((spec_l1Split.f k s 35).bind fun t124 => (if 0 < (t124.length : Int) then (if ((rdOf ByteArray.empty t124 0).size : Int) < ((t123 ++ (⟨#[32]⟩ : ByteArray)).size : Int) then (spec_l12Decode.j0 k s (n : Int) (t123 ++ (⟨#[32]⟩ : ByteArray)) (rdOf ByteArray.empty t124 0) true) else (if 0 ≤ ((t123 ++ (⟨#[32]⟩ : ByteArray)).size : Int) then (if ((t123 ++ (⟨#[32]⟩ : ByteArray)).size : Int) ≤ ((rdOf ByteArray.empty t124 0).size : Int) then (spec_l12Decode.j0 k s (n : Int) (t123 ++ (⟨#[32]⟩ : ByteArray)) (rdOf ByteArray.empty t124 0) (((rdOf ByteArray.empty t124 0).extract 0 (((t123 ++ (⟨#[32]⟩ : ByteArray)).size : Int) : Int).toNat).toList != (t123 ++ (⟨#[32]⟩ : ByteArray)).toList)) else (none)) else (none))) else (none))) else (none))) z := fun z hzz => by
      refine ev_bind _ e1 ?_
      simp only [if_pos g, hAe]; refine ev_bind _ f1 ?_
      simp only [if_pos g2, hXe, if_neg c1, if_pos c2, if_pos c3, hq]
      exact hzz
    have up2 : ∀ z, Ev (fun k => impl_decode.j0 k (n : Int) s A X q) z → Ev (fun k => (impl_text.f k (n : Int)).bind fun t195 => (if t195.size + 1 ≤ 9223372036854775807 then ((impl_split.f k s 35).bind fun t196 => (if 0 < (t196.length : Int) then (if ((rdOf ByteArray.empty t196 0).size : Int) < ((t195 ++ (⟨#[32]⟩ : ByteArray)).size : Int) then (impl_decode.j0 k (n : Int) s (t195 ++ (⟨#[32]⟩ : ByteArray)) (rdOf ByteArray.empty t196 0) true) else (if 0 ≤ ((t195 ++ (⟨#[32]⟩ : ByteArray)).size : Int) then (if ((t195 ++ (⟨#[32]⟩ : ByteArray)).size : Int) ≤ ((rdOf ByteArray.empty t196 0).size : Int) then (impl_decode.j0 k (n : Int) s (t195 ++ (⟨#[32]⟩ : ByteArray)) (rdOf ByteArray.empty t196 0) (((rdOf ByteArray.empty t196 0).extract 0 (((t195 ++ (⟨#[32]⟩ : ByteArray)).size : Int) : Int).toNat).toList != (t195 ++ (⟨#[32]⟩ : ByteArray)).toList)) else (none)) else (none))) else (none))) else (none))) z := fun z hzz => by
      refine ev_bind _ e2 ?_
      simp only [if_pos g, hAe]; refine ev_bind _ f2 ?_
      simp only [if_pos g2, hXe, if_neg c1, if_pos c2, if_pos c3, hq]
      exact hzz
    cases q with
    | true =>
      exact ⟨⟨#[]⟩, ⟨#[]⟩, false, up1 _ (ev_stop fun k => by simp only [spec_l12Decode.j0]; rw [if_pos trivial]), up2 _ (ev_stop fun k => by simp only [impl_decode.j0]; rw [if_pos trivial]), by simp⟩
    | false =>
      have hRz : (X.extract ((A.size : Int) : Int).toNat X.size).size ≤ 10000000 := by rw [ByteArray.size_extract]; omega
      have hk := head_size (X.extract ((A.size : Int) : Int).toNat X.size) 64
      have hp2 := splitP_pos (X.extract ((A.size : Int) : Int).toNat X.size) 64 0 (Nat.zero_le _) 0
      have k1 := spec_l1Split.ev (X.extract ((A.size : Int) : Int).toNat X.size) 64 (by omega)
      have k2 := impl_split.ev (X.extract ((A.size : Int) : Int).toNat X.size) 64 (by omega)
      generalize hRe : X.extract ((A.size : Int) : Int).toNat X.size = R at hRz hk hp2 k1 k2
      generalize splitP R 64 0 0 = ps at hp2 hk k1 k2
      have g3 : 0 < (ps.length : Int) := by omega
      generalize hCe : rdOf ByteArray.empty ps 0 = C at hk
      by_cases c4 : (C.size : Int) = (R.size : Int)
      · refine ⟨⟨#[]⟩, ⟨#[]⟩, false, up1 _ ?_, up2 _ ?_, by simp⟩
        · refine ev_go _ (fun k => by simp only [spec_l12Decode.j0, Bool.false_eq_true, if_false, if_pos c2, if_pos c3, hRe]; rfl) (ev_bind _ k1 ?_)
          simp only [if_pos g3, hCe, if_pos c4]; exact Ev.now _
        · refine ev_go _ (fun k => by simp only [impl_decode.j0, Bool.false_eq_true, if_false, if_pos c2, if_pos c3, hRe]; rfl) (ev_bind _ k2 ?_)
          simp only [if_pos g3, hCe, if_pos c4]; exact Ev.now _
      · have hw : wrap64 ((C.size : Int) + 1) = ((C.size + 1 : Nat) : Int) := wr1 (by omega)
        have c5 : 0 ≤ ((C.size + 1 : Nat) : Int) := by omega
        have c6 : ((C.size + 1 : Nat) : Int) ≤ (R.size : Int) := by omega
        have hY : (R.extract (((C.size + 1 : Nat) : Int) : Int).toNat R.size).size ≤ 10000000 := by rw [ByteArray.size_extract]; omega
        generalize hYe : R.extract (((C.size + 1 : Nat) : Int) : Int).toNat R.size = Y at hY
        have m1 := spec_l12Record.ev C Y (by omega) (by omega)
        have m2 := impl_IsValidRecord.ev C Y (by omega) (by omega)
        have g4 : s.size + 1 ≤ 9223372036854775807 := by omega
        have w1 : ∀ z, Ev (fun k => (spec_l12Record.f k C Y).bind fun t134 => (if t134 = true then ((spec_l12Line.f k (n : Int) C Y).bind fun t135 => (some (C, Y, (t135.toList == (s ++ (⟨#[10]⟩ : ByteArray)).toList)))) else (some (C, Y, false)))) z → Ev (fun k => spec_l12Decode.j0 k s (n : Int) A X false) z := fun z hzz => by
          refine ev_go _ (fun k => by simp only [spec_l12Decode.j0, Bool.false_eq_true, if_false, if_pos c2, if_pos c3, hRe]; rfl) (ev_bind _ k1 ?_)
          simp only [if_pos g3, hCe, if_neg c4, hw, if_pos c5, if_pos c6, hYe, if_pos g4]; exact hzz
        have w2 : ∀ z, Ev (fun k => (impl_EncodeRecord.f k (n : Int) C Y).bind fun bt205 => (if bt205.2 = true then (some (C, Y, (bt205.1.toList == (s ++ (⟨#[10]⟩ : ByteArray)).toList))) else (some (C, Y, false)))) z → Ev (fun k => impl_decode.j0 k (n : Int) s A X false) z := fun z hzz => by
          refine ev_go _ (fun k => by simp only [impl_decode.j0, Bool.false_eq_true, if_false, if_pos c2, if_pos c3, hRe]; rfl) (ev_bind _ k2 ?_)
          simp only [if_pos g3, hCe, if_neg c4, hw, if_pos c5, if_pos c6, hYe, if_pos g4]; exact hzz
        have hin : impl_within.f (n : Int) 0 59 = some true := by rw [impl_within.eq, decide_eq_true (by omega)]
        by_cases h : RecordOk C Y
        · obtain ⟨t, tz, s1, s2⟩ := line_both (n : Int) C Y (by omega) h
          refine ⟨C, Y, (t.toList == (s ++ (⟨#[10]⟩ : ByteArray)).toList), up1 _ (w1 _ ?_), up2 _ (w2 _ ?_), fun hok => ?_⟩
          · exact ev_guard' m1 (fun _ => ev_bind t s1 (Ev.now _)) (fun hn => absurd h hn)
          · refine ev_bind (t, true) ?_ ?_
            · unfold impl_EncodeRecord.f
              simp only [hin, Option.bind_some, if_true]
              exact ev_bind true (evB_true m2 h) s2
            · simp only [if_true]; exact Ev.now _
          · have e := eq_of_beq hok
            have e2 := congrArg List.length e
            rw [show t.toList = t.data.toList from ByteArray.toList_eq t, show (s ++ (⟨#[10]⟩ : ByteArray)).toList = (s ++ (⟨#[10]⟩ : ByteArray)).data.toList from ByteArray.toList_eq _] at e2
            have e3 : t.size = (s ++ (⟨#[10]⟩ : ByteArray)).size := e2
            rw [ByteArray.size_append, sz1] at e3
            omega
        · refine ⟨C, Y, false, up1 _ (w1 _ ?_), up2 _ (w2 _ ?_), by simp⟩
          · exact ev_guard' m1 (fun h3 => absurd h3 h) (fun _ => Ev.now _)
          · refine ev_bind (((⟨#[]⟩ : ByteArray), false)) ?_ ?_
            · unfold impl_EncodeRecord.f
              simp only [hin, Option.bind_some, if_true]
              refine ev_bind false (evB_false m2 h) ?_
              exact ev_stop fun k => by simp only [impl_EncodeRecord.j0]; rfl
            · simp only [Bool.false_eq_true, if_false]; exact Ev.now _

theorem scan_ev (s : ByteArray) (hs : s.size ≤ 10000000) (out : List (S91)) (at_ : Int) (z : List (S91) × Int) : ∀ i, i ≤ s.size → Ev (fun k => impl_recovered.j2 k s out at_ (fstI s 10 i : Nat)) z → Ev (fun k => impl_recovered.l1 k s out at_ (i : Int)) z := by
  refine rev_ind s.size (fun h => ?_) (fun i hi ih h => ?_)
  · rw [fstI, if_neg (by omega)] at h
    refine ev_go _ (fun k => ?_) h
    simp only [impl_recovered.l1]; rw [if_neg (by omega)]
  · rw [fstI, if_pos hi] at h
    by_cases e : bt s (i : Int) = 10
    · rw [if_pos e] at h
      refine ev_go _ (fun k => ?_) h
      simp only [impl_recovered.l1]; rw [if_pos (by omega), if_pos (by omega), if_pos e]
    · rw [if_neg e] at h
      refine ev_go _ (fun k => ?_) (ih h)
      simp only [impl_recovered.l1]; rw [if_pos (by omega), if_pos (by omega), if_neg e, wr1 (by omega)]
theorem open_both (s : ByteArray) (hs : s.size ≤ 10000000) : ∃ (out : List (S91)) (e : Nat), Ev (fun k => spec_l12Open.f k s) (out, (e : Int)) ∧ Ev (fun k => impl_recovered.f k s) (out, (e : Int)) ∧ e ≤ s.size ∧ out.length ≤ 60 ∧ e ≤ 400 * out.length := by
  have key : ∀ d (out : List (S91)) (a : Nat), out.length + d = 60 → a ≤ s.size → a ≤ 400 * out.length → ∃ (o : List (S91)) (e : Nat), Ev (fun k => spec_l12Open.l0 k s out (a : Int)) (o, (e : Int)) ∧ Ev (fun k => impl_recovered.l0 k s out (a : Int)) (o, (e : Int)) ∧ e ≤ s.size ∧ o.length ≤ 60 ∧ e ≤ 400 * o.length := by
    intro d
    induction d with
    | zero =>
      intro out a h1 h2 h3
      refine ⟨out, a, ?_, ev_stop fun k => ?_, h2, by omega, h3⟩
      · have stop : Ev (fun k => spec_l12Open.j1 k s out (a : Int) false) (out, (a : Int)) := ev_stop fun k => by simp only [spec_l12Open.j1]; rfl
        refine ev_go _ (fun k => ?_) stop
        simp only [spec_l12Open.l0]; rw [decide_eq_false (by omega), ite_self]
      · simp only [impl_recovered.l0]; rw [if_neg (by omega)]
    | succ d ih =>
      intro out a h1 h2 h3
      have stop : Ev (fun k => spec_l12Open.j1 k s out (a : Int) false) (out, (a : Int)) := ev_stop fun k => by simp only [spec_l12Open.j1]; rfl
      obtain ⟨f1, f2⟩ := fstI_ge s 10 a h2
      have scan := fun z h => scan_ev s hs out (a : Int) z a h2 h
      have go2 : ∀ z, Ev (fun k => impl_recovered.j2 k s out (a : Int) (fstI s 10 a : Nat)) z → Ev (fun k => impl_recovered.l0 k s out (a : Int)) z := fun z h => by
        refine ev_go _ (fun k => ?_) (scan z h)
        simp only [impl_recovered.l0]; rw [if_pos (by omega)]
      by_cases ha : a < s.size
      · have hz : (s.extract a s.size).size = s.size - a := by rw [ByteArray.size_extract]; omega
        obtain ⟨r, hr, hr2⟩ := splitP_head (s.extract a s.size) 10 0 (Nat.zero_le _) 0
        have hx := fstI_ext s 10 a h2 0 (Nat.zero_le _)
        rw [Nat.add_zero] at hx
        have hline : (s.extract a s.size).extract 0 (fstI (s.extract a s.size) 10 0) = s.extract a (fstI s 10 a) := by
          rw [ByteArray.extract_extract, Nat.add_zero, hx, Nat.min_eq_left f2]
        rw [hline] at hr
        have sp := spec_l1Split.ev (s.extract a s.size) 10 (by omega)
        rw [hr] at sp
        have hls : (s.extract a (fstI s 10 a)).size = fstI s 10 a - a := by rw [ByteArray.size_extract]; omega
        obtain ⟨c, rp, ok, e1, e2, e3⟩ := decode_both (s.extract a (fstI s 10 a)) out.length (by omega) (by omega)
        have up : ∀ z, Ev (fun k => (spec_l12Decode.f k (s.extract a (fstI s 10 a)) (out.length : Int)).bind fun bt143 => (if ((s.extract a (fstI s 10 a) :: r).length : Int) < 2 then (some (out, (a : Int))) else (if bt143.2.2 = true then (if out.length < 4398046511104 then (spec_l12Open.l0 k s (out ++ [(⟨bt143.1, bt143.2.1⟩ : S91)]) (wrap64 ((wrap64 ((a : Int) + ((s.extract a (fstI s 10 a)).size : Int))) + 1))) else (none)) else (some (out, (a : Int)))))) z → Ev (fun k => spec_l12Open.l0 k s out (a : Int)) z := fun z h => by
          refine ev_go (fun k => spec_l12Open.j1 k s out (a : Int) true) (fun k => ?_) ?_
          · simp only [spec_l12Open.l0]; rw [if_pos (by omega), decide_eq_true (by omega)]
          · refine ev_go _ (fun k => by simp only [spec_l12Open.j1, if_true, if_pos (show (0 : Int) ≤ (a : Int) by omega), if_pos (show (a : Int) ≤ (s.size : Int) by omega), Int.toNat_natCast]; rfl) (ev_bind _ sp ?_)
            simp only [if_pos (show 0 < ((s.extract a (fstI s 10 a) :: r).length : Int) by rw [List.length_cons]; omega)]
            exact h
        by_cases hn : fstI s 10 a = s.size
        · have hre : r = [] := Classical.byContradiction fun hc => absurd (hr2.1 hc) (by omega)
          refine ⟨out, a, up _ (ev_bind _ e1 ?_), go2 _ ?_, h2, by omega, h3⟩
          · simp only [if_pos (show ((s.extract a (fstI s 10 a) :: r).length : Int) < 2 by rw [hre]; simp)]; exact Ev.now _
          · refine ev_stop fun k => ?_
            simp only [impl_recovered.j2]; rw [if_pos (by omega)]
        · have hre : r ≠ [] := hr2.2 (by omega)
          have hr1 : 0 < r.length := List.length_pos_iff.2 hre
          have hl2 : ¬ ((s.extract a (fstI s 10 a) :: r).length : Int) < 2 := by simp; omega
          have d2 : ∀ z, Ev (fun k => (impl_decode.f k (out.length : Int) (s.extract a (fstI s 10 a))).bind fun bt207 => (if bt207.2.2 = true then (if out.length < 4398046511104 then (impl_recovered.l0 k s (out ++ [(⟨bt207.1, bt207.2.1⟩ : S91)]) (wrap64 ((a : Int) + (wrap64 (((s.extract a (fstI s 10 a)).size : Int) + 1))))) else (none)) else (some (out, (a : Int))))) z → Ev (fun k => impl_recovered.j2 k s out (a : Int) (fstI s 10 a : Nat)) z := fun z h => by
            refine ev_go _ (fun k => ?_) h
            simp only [impl_recovered.j2]; rw [if_neg (by omega), if_pos (by omega), if_pos (by omega), if_pos (by omega)]
            rfl
          cases ok with
          | false =>
            refine ⟨out, a, up _ (ev_bind _ e1 ?_), go2 _ (d2 _ (ev_bind _ e2 ?_)), h2, by omega, h3⟩
            · simp only [if_neg hl2, Bool.false_eq_true, if_false]; exact Ev.now _
            · simp only [Bool.false_eq_true, if_false]; exact Ev.now _
          | true =>
            have hsz := e3 rfl
            obtain ⟨o, e, i1, i2, i3, i4, i5⟩ := ih (out ++ [(⟨c, rp⟩ : S91)]) (fstI s 10 a + 1) (by simp; omega) (by omega) (by simp; omega)
            refine ⟨o, e, up _ (ev_bind _ e1 ?_), go2 _ (d2 _ (ev_bind _ e2 ?_)), i3, i4, i5⟩
            · simp only [if_neg hl2, if_true, if_pos (show out.length < 4398046511104 by omega)]
              rw [hls, show wrap64 (wrap64 ((a : Int) + ((fstI s 10 a - a : Nat) : Int)) + 1) = ((fstI s 10 a + 1 : Nat) : Int) by rw [wr (x := (a : Int) + _) (by omega) (by omega), wr (by omega) (by omega)]; omega]
              exact i1
            · simp only [if_true, if_pos (show out.length < 4398046511104 by omega)]
              rw [hls, show wrap64 ((a : Int) + wrap64 (((fstI s 10 a - a : Nat) : Int) + 1)) = ((fstI s 10 a + 1 : Nat) : Int) by rw [wr (x := ((fstI s 10 a - a : Nat) : Int) + 1) (by omega) (by omega), wr (by omega) (by omega)]; omega]
              exact i2
      · refine ⟨out, a, ?_, go2 _ ?_, h2, by omega, h3⟩
        · refine ev_go _ (fun k => ?_) stop
          simp only [spec_l12Open.l0]; rw [if_neg (by omega)]
        · refine ev_stop fun k => ?_
          simp only [impl_recovered.j2]; rw [if_pos (by omega)]
  obtain ⟨o, e, h1, h2, h3, h4, h5⟩ := key 60 [] 0 (by simp) (Nat.zero_le _) (by simp)
  exact ⟨o, e, h1, h2, h3, h4, h5⟩

end Go.Proofs.Ytehaakoaabbiaaa.Pure
