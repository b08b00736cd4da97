/- Proved here: what functions that the law FnExactUnitGreedy reaches answer (unitSort, unitFold, unitOk, core_UnitGreedy). Conditions: those that each theorem names. -/
import Derived.Test.YtafjdcjaigmnaaaQFnExactUnitGreedyv
set_option linter.unusedVariables false
set_option linter.unusedSimpArgs false
namespace Go.Proofs.Ytafjdcjaigmnaaa.Pure
open Go.RowKit Go.Proofs.Ytafjdcjaigmnaaa.XFnExactUnitGreedy Go.Proofs.YtafjdcjaigmnaaaW.PrintWords Go.Proofs.YtafjdcjaigmnaaaW.PrintLast

/-- first the larger key, then the smaller number -/
def FallR (f : Int → Int) (a b : Int) : Prop := f b < f a ∨ f a = f b ∧ a < b
theorem fallR_asym (f : Int → Int) (a b : Int) (h : FallR f a b) : ¬ FallR f b a := by unfold FallR at *; omega
theorem insAt_fall {f : Int → Int} {x : Int} {out : List Int} (hx : ∀ y ∈ out, y < x) (h : out.Pairwise (FallR f)) : (insAt (fun a b => decide (f b < f a)) x out).Pairwise (FallR f) := by
  have hP : Pre (fun a b => decide (f b < f a)) (fun _ => True) := by
    have := pre_key (fun a => - f a) (fun _ => True)
    have e : (fun a b => decide (f b < f a)) = fun a b => decide (- f a < - f b) := by funext a b; rw [decide_eq_decide]; omega
    rw [e]; exact this
  have hs : SortedLt (fun a b => decide (f b < f a)) out := h.imp fun {a b} hab => by unfold FallR at hab; rw [decide_eq_false_iff_not]; omega
  have h2 := insAt_sorted hP (x := x) trivial (fun _ _ => trivial) hs
  unfold SortedLt at h2
  have hle := insPos_le (fun a b => decide (f b < f a)) x out out.length
  obtain ⟨_, hr⟩ := insPos_left (lt := fun a b => decide (f b < f a)) (x := x) (out := out) out.length (Nat.le_refl _)
  unfold insAt at h2 ⊢
  generalize insPos (fun a b => decide (f b < f a)) x out out.length = p at hle h2 hr ⊢
  have h3 := h
  rw [← List.take_append_drop p out, List.pairwise_append] at h3
  rw [List.pairwise_append, List.pairwise_cons] at h2 ⊢
  refine ⟨h3.1, ⟨fun b hb => ?_, h3.2.1⟩, fun a ha b hb => ?_⟩
  · obtain ⟨i, hi, rfl⟩ := List.mem_drop_iff_getElem.1 hb
    have h0 := hr (p + i) (by omega) (by omega)
    rw [List.getD_eq_getElem?_getD, List.getElem?_eq_getElem (by omega), Option.getD_some] at h0
    exact .inl (of_decide_eq_true h0)
  · rcases List.mem_cons.1 hb with rfl | hb
    · have h4 := of_decide_eq_false (h2.2.2 a ha b List.mem_cons_self)
      have h5 := hx a (List.mem_of_mem_take ha)
      unfold FallR; omega
    · exact h3.2.2 a ha b hb
theorem insAll_fall {f : Int → Int} : ∀ (l out : List Int), l.Pairwise (fun a b => a < b) → (∀ x ∈ l, ∀ y ∈ out, y < x) → out.Pairwise (FallR f) → (insAll (fun a b => decide (f b < f a)) l out).Pairwise (FallR f)
  | [], _, _, _, h => h
  | x :: l, out, hl, hx, h => by
    rw [List.pairwise_cons] at hl
    rw [insAll]
    refine insAll_fall l _ hl.2 (fun z hz y hy => ?_) (insAt_fall (hx x List.mem_cons_self) h)
    rcases List.mem_cons.1 ((insAt_perm _ _ _).mem_iff.1 hy) with rfl | hy
    · exact hl.1 z hz
    · exact hx z (List.mem_cons_of_mem _ hz) y hy
/-- key by key, from c - 1 down to nothing -/
def byKey (f : Int → Int) (n : Nat) : Nat → List Int
  | 0 => []
  | c + 1 => (nums_to n).filter (fun i => decide (f i = (c : Int))) ++ byKey f n c
theorem byKey_mem {f : Int → Int} {n : Nat} {x : Int} : ∀ c, x ∈ byKey f n c ↔ x ∈ nums_to n ∧ 0 ≤ f x ∧ f x < (c : Int)
  | 0 => by rw [byKey]; constructor
            · intro h; cases h
            · intro h; omega
  | c + 1 => by
    rw [byKey, List.mem_append, byKey_mem c, List.mem_filter, decide_eq_true_eq]
    constructor
    · rintro (⟨h1, h2⟩ | ⟨h1, h2⟩)
      · exact ⟨h1, by omega⟩
      · exact ⟨h1, by omega⟩
    · rintro ⟨h1, h2⟩
      by_cases e : f x = (c : Int)
      · exact .inl ⟨h1, e⟩
      · exact .inr ⟨h1, by omega⟩
theorem nums_rise (n : Nat) : (nums_to n).Pairwise fun u v => u < v := by
  unfold nums_to
  rw [List.pairwise_map]
  exact List.pairwise_lt_range.imp fun h => by omega
theorem byKey_fall {f : Int → Int} {n : Nat} : ∀ c, (byKey f n c).Pairwise (FallR f)
  | 0 => List.Pairwise.nil
  | c + 1 => by
    rw [byKey, List.pairwise_append]
    refine ⟨?_, byKey_fall c, fun a ha b hb => ?_⟩
    · refine List.Pairwise.imp_of_mem ?_ ((nums_rise n).filter _)
      intro a b ha hb hab
      rw [List.mem_filter, decide_eq_true_eq] at ha hb
      exact .inr ⟨by omega, hab⟩
    · rw [List.mem_filter, decide_eq_true_eq] at ha
      have hb := (byKey_mem c).1 hb
      exact .inl (by omega)
theorem byKey_eq {f : Int → Int} {n : Nat} (c : Nat) (h : ∀ x ∈ nums_to n, 0 ≤ f x ∧ f x < (c : Int)) : sortN (fun a b => decide (f b < f a)) n = byKey f n c := by
  have h1 : (sortN (fun a b => decide (f b < f a)) n).Pairwise (FallR f) := insAll_fall _ _ (nums_rise n) (by simp) List.Pairwise.nil
  have h2 := byKey_fall (f := f) (n := n) c
  refine List.Perm.eq_of_pairwise (fun a b _ _ h h' => absurd h' (fallR_asym f a b h)) h1 h2 ?_
  have nd : ∀ l : List Int, l.Pairwise (FallR f) → l.Nodup := fun l hl => hl.imp fun {a b} hab e => by subst e; unfold FallR at hab; omega
  rw [List.perm_ext_iff_of_nodup (nd _ h1) (nd _ h2)]
  intro x
  rw [(sortN_perm _ n).mem_iff, byKey_mem]
  exact ⟨fun hx => ⟨hx, h x hx⟩, fun hx => hx.1⟩

def ugOk (jobs : List J) (t : List Int) : Bool := onTimeF jobs (insAll (dueLt jobs) t []) 0
def ugStep (jobs : List J) (t : List Int) (i : Int) : List Int := if ugOk jobs (insAt ltI i t) = true then insAt ltI i t else t
theorem sorted_of_set {n : Nat} {t : List Int} (h : SetOk n t) : SortedLt ltI t := by
  unfold SortedLt
  rw [List.pairwise_iff_getElem]
  intro i j hi hj hij
  have := h.1.lt j i hj hij
  unfold ltI; rw [decide_eq_false_iff_not]; omega
theorem put_set {n : Nat} {t : List Int} {i : Int} (h : SetOk n t) (hi : 0 ≤ i ∧ i < n) (hn : i ∉ t) : SetOk n (insAt ltI i t) := by
  have h1 := insAt_sorted (ltI_pre (fun _ => True)) (x := i) trivial (fun _ _ => trivial) (sorted_of_set h)
  have hp := insAt_perm ltI i t
  have h2 : (insAt ltI i t).Nodup := hp.nodup_iff.2 (List.nodup_cons.2 ⟨hn, h.1.nodup⟩)
  refine ⟨fun j hj => ?_, fun x hx => ?_⟩
  · have h3 := (List.pairwise_iff_getElem.1 h1) j (j + 1) (by omega) hj (by omega)
    have h4 : (insAt ltI i t)[j] ≠ (insAt ltI i t)[j + 1] := (List.pairwise_iff_getElem.1 h2) j (j + 1) (by omega) hj (by omega)
    unfold ltI at h3 h4 ⊢; rw [decide_eq_false_iff_not] at h3; omega
  · rcases List.mem_cons.1 (hp.mem_iff.1 hx) with rfl | hx
    · exact hi
    · exact h.2 x hx
theorem ugStep_ok {jobs : List J} {t : List Int} {i : Int} (h : SetOk jobs.length t) (hi : 0 ≤ i ∧ i < jobs.length) (hn : i ∉ t) : SetOk jobs.length (ugStep jobs t i) ∧ ∀ x ∈ ugStep jobs t i, x = i ∨ x ∈ t := by
  unfold ugStep
  split
  · exact ⟨put_set h hi hn, fun x hx => List.mem_cons.1 ((insAt_perm ltI i t).mem_iff.1 hx)⟩
  · exact ⟨h, fun x hx => .inr hx⟩
def ugFold (jobs : List J) : List Int → List Int → List Int
  | [], t => t
  | i :: l, t => ugFold jobs l (ugStep jobs t i)
theorem ugFold_append (jobs : List J) : ∀ (a b t : List Int), ugFold jobs (a ++ b) t = ugFold jobs b (ugFold jobs a t)
  | [], _, _ => rfl
  | i :: a, b, t => by rw [List.cons_append, ugFold, ugFold, ugFold_append jobs a b]
theorem ugFold_ok {jobs : List J} : ∀ (l t : List Int), l.Nodup → (∀ x ∈ l, 0 ≤ x ∧ x < jobs.length) → SetOk jobs.length t → (∀ x ∈ l, x ∉ t) → SetOk jobs.length (ugFold jobs l t) ∧ ∀ x ∈ ugFold jobs l t, x ∈ l ∨ x ∈ t
  | [], t, _, _, h, _ => ⟨h, fun x hx => .inr hx⟩
  | i :: l, t, hd, hr, h, hn => by
    rw [ugFold]
    rw [List.nodup_cons] at hd
    have h1 := ugStep_ok h (hr i List.mem_cons_self) (hn i List.mem_cons_self)
    have h2 := ugFold_ok l (ugStep jobs t i) hd.2 (fun x hx => hr x (List.mem_cons_of_mem _ hx)) h1.1 (fun x hx hx' => by
      rcases h1.2 x hx' with rfl | h3
      · exact hd.1 hx
      · exact hn x (List.mem_cons_of_mem _ hx) h3)
    refine ⟨h2.1, fun x hx => ?_⟩
    rcases h2.2 x hx with h3 | h3
    · exact .inl (List.mem_cons_of_mem _ h3)
    · rcases h1.2 x h3 with rfl | h3
      · exact .inl List.mem_cons_self
      · exact .inr h3
theorem impl_UnitGreedy.lp_ev {jobs : List J} (hj : JobsOk jobs) : ∀ (l t : List Int), l.Nodup → (∀ x ∈ l, 0 ≤ x ∧ x < jobs.length) → SetOk jobs.length t → (∀ x ∈ l, x ∉ t) → Ev (fun k => impl_UnitGreedy.lp k jobs l t) (ugFold jobs l t)
  | [], t, _, _, _, _ => Ev.now _
  | i :: l, t, hd, hr, h, hn => by
    rw [List.nodup_cons] at hd
    have h8 := hj.1
    have hlen := h.len
    have hi := hr i List.mem_cons_self
    have hit := hn i List.mem_cons_self
    have h1 := ugStep_ok h hi hit
    have ih := impl_UnitGreedy.lp_ev hj l (ugStep jobs t i) hd.2 (fun x hx => hr x (List.mem_cons_of_mem _ hx)) h1.1 (fun x hx hx' => by
      rcases h1.2 x hx' with rfl | h3
      · exact hd.1 hx
      · exact hn x (List.mem_cons_of_mem _ hx) h3)
    have hp := put_set h hi hit
    have hpl := hp.len
    rw [ugFold]
    simp only [impl_UnitGreedy.lp]
    simp only [if_pos (show impl_copyInts.f t = some t ∧ t.length ≤ 1048576 ∧ i ∉ t from ⟨impl_copyInts.eq t (by omega), by omega, hit⟩)]
    refine ev_bind _ (impl_onTime.ev jobs (insAt ltI i t) (by omega) hp.2) ?_
    exact ih
theorem spec_UnitGreedy.in_ev {jobs : List J} (hj : JobsOk jobs) (w : Int) : ∀ (c i : Nat) (t : List Int), i + c = jobs.length → SetOk jobs.length t → (∀ x ∈ t, x < i ∨ (rd_T54 jobs x).f1 ≠ w) → Ev (fun k => spec_UnitGreedy.inn k jobs w c (i : Int) t) (ugFold jobs (((nums_to jobs.length).drop i).filter (fun i => decide ((rd_T54 jobs i).f1 = w))) t)
  | 0, i, t, hc, _, _ => by
    simp only [spec_UnitGreedy.inn]
    rw [List.drop_of_length_le (by rw [nums_to_length]; omega), List.filter_nil, ugFold]
    exact Ev.now _
  | c + 1, i, t, hc, h, hn => by
    have h8 := hj.1
    have hlen := h.len
    have hi : i < (nums_to jobs.length).length := by rw [nums_to_length]; omega
    have hi2 : (nums_to jobs.length)[i] = (i : Int) := by simp [nums_to]
    rw [drop_cons hi, hi2]
    simp only [spec_UnitGreedy.inn]
    have e1 : ((i : Int) + 1) = ((i + 1 : Nat) : Int) := by omega
    rw [wr (x := (i : Int) + 1) (by omega) (by omega), e1]
    by_cases q : (rd_T54 jobs (i : Int)).f1 = w
    · have hit : (i : Int) ∉ t := fun hm => by rcases hn _ hm with h1 | h1; omega; exact h1 q
      have hir : 0 ≤ (i : Int) ∧ (i : Int) < (jobs.length : Int) := by omega
      have h1 := ugStep_ok h hir hit
      have hp := put_set h hir hit
      have hpl := hp.len
      have ih := spec_UnitGreedy.in_ev hj w c (i + 1) (ugStep jobs t (i : Int)) (by omega) h1.1 (fun x hx => by
        rcases h1.2 x hx with rfl | h3
        · exact .inl (by omega)
        · rcases hn x h3 with h4 | h4
          · exact .inl (by omega)
          · exact .inr h4)
      simp only [if_pos q]
      rw [List.filter_cons_of_pos (by simpa using q), ugFold]
      refine ev_bind _ (spec_l1Put.ev t (i : Int) (by omega) (sorted_of_set h) hit) ?_
      refine ev_bind _ (spec_l6Timely.ev jobs (insAt ltI (i : Int) t) hj hp) ?_
      exact ih
    · have ih := spec_UnitGreedy.in_ev hj w c (i + 1) t (by omega) h (fun x hx => by
        rcases hn x hx with h4 | h4
        · exact .inl (by omega)
        · exact .inr h4)
      simp only [if_neg q]
      rw [List.filter_cons_of_neg (by simpa using q)]
      exact ih
theorem spec_UnitGreedy.out_ev {jobs : List J} (hj : JobsOk jobs) : ∀ (c : Nat) (t : List Int), c ≤ 51 → SetOk jobs.length t → (∀ x ∈ t, (c : Int) ≤ (rd_T54 jobs x).f1) → Ev (fun k => spec_UnitGreedy.out k jobs c ((c : Int) - 1) t) (ugFold jobs (byKey (fun x => (rd_T54 jobs x).f1) jobs.length c) t)
  | 0, t, _, _, _ => by simp only [spec_UnitGreedy.out]; exact Ev.now _
  | c + 1, t, hc, h, hn => by
    simp only [spec_UnitGreedy.out]
    rw [byKey, ugFold_append, show (((c + 1 : Nat) : Int) - 1) = (c : Int) by omega]
    have h1 := spec_UnitGreedy.in_ev hj (c : Int) jobs.length 0 t (by omega) h (fun x hx => .inr (by have := hn x hx; omega))
    rw [List.drop_zero] at h1
    refine ev_bind _ h1 ?_
    rw [wr (x := (c : Int) - 1) (by omega) (by omega)]
    have hk := ugFold_ok (jobs := jobs) ((nums_to jobs.length).filter (fun i => decide ((rd_T54 jobs i).f1 = (c : Int)))) t (List.Pairwise.filter _ (nums_to_nodup _)) (fun x hx => mem_nums_to.1 (List.mem_filter.1 hx).1) h (fun x hx hx' => by
      have h2 := (List.mem_filter.1 hx).2
      rw [decide_eq_true_eq] at h2
      have := hn x hx'; omega)
    refine spec_UnitGreedy.out_ev hj c _ (by omega) hk.1 (fun x hx => ?_)
    rcases hk.2 x hx with h2 | h2
    · have h2 := (List.mem_filter.1 h2).2
      rw [decide_eq_true_eq] at h2; omega
    · have := hn x h2; omega

def OneLong (l : List J) : Prop := ∀ j ∈ l, j.f0 = 1
theorem oneLong_cons {x : J} {l : List J} : OneLong (x :: l) ↔ x.f0 = 1 ∧ OneLong l := by simp [OneLong]
theorem spec_l10Unit.ev (l : List J) (hl : l.length ≤ 1000000000000) : EvB (fun k => spec_l10Unit.f k l) (OneLong l ∧ PlainOk l) := by
  have key := rev_ind (P := fun i => EvB (fun k => spec_l10Unit.l0 k l (i : Int)) (OneLong (l.drop i) ∧ PlainOk l)) l.length ?_ ?_ 0 (Nat.zero_le _)
  · simpa [spec_l10Unit.f] using key
  · obtain ⟨c, hb, hP⟩ := spec_l6Good.ev l hl
    refine ⟨c, ev_go (fun k => (spec_l6Good.f k l).bind fun t => some t) (fun k => ?_) (ev_bind c hb (Ev.now _)), hP.trans ⟨fun h => ⟨(by rw [List.drop_length]; intro j hj; cases hj), h⟩, fun h => h.2⟩⟩
    simp only [spec_l10Unit.l0]; rw [if_neg (by omega)]
  · intro i hi ih
    rw [drop_cons hi, oneLong_cons]
    by_cases q : l[i].f0 = 1
    · obtain ⟨c, hb, hP⟩ := ih
      refine ⟨c, ev_go _ (fun k => ?_) hb, hP.trans ⟨fun h => ⟨⟨q, h.1⟩, h.2⟩, fun h => ⟨h.1.2, h.2⟩⟩⟩
      simp only [spec_l10Unit.l0]; rw [if_pos (by omega), if_pos (by omega), rdJ hi, if_pos q, wr1 (by omega)]
    · refine evB_of (fun h => absurd h.1.1 q) (fun _ => ev_stop fun k => ?_)
      simp only [spec_l10Unit.l0]; rw [if_pos (by omega), if_pos (by omega), rdJ hi, if_neg q]
theorem impl_areUnit.ev (l : List J) (hl : l.length ≤ 1000000000000) : EvB (fun k => impl_areUnit.f k l) (OneLong l ∧ PlainOk l) := by
  have key := rev_ind (P := fun i => EvB (fun k => impl_areUnit.l0 k l (l.length : Int) (i : Int)) (OneLong (l.drop i))) l.length ?_ ?_ 0 (Nat.zero_le _)
  · rw [List.drop_zero] at key
    unfold impl_areUnit.f
    refine evB_of (fun h => ?_) (fun h => ?_)
    · refine evB_bind (impl_IsPlain.ev l hl) (fun _ => ?_) (fun h' => absurd h.2 h')
      simp only [if_true]; exact evB_true key h.1
    · refine evB_bind (impl_IsPlain.ev l hl) (fun h1 => ?_) (fun _ => by simp only [Bool.false_eq_true, if_false]; exact Ev.now _)
      simp only [if_true]; exact evB_false key (fun h2 => h ⟨h2, h1⟩)
  · refine evB_of (fun _ => ev_stop fun k => ?_) (fun h => absurd (by rw [List.drop_length]; intro j hj; cases hj) h)
    simp only [impl_areUnit.l0]; rw [if_neg (by omega)]
  · intro i hi ih
    rw [drop_cons hi, oneLong_cons]
    by_cases q : l[i].f0 = 1
    · obtain ⟨c, hb, hP⟩ := ih
      refine ⟨c, ev_go _ (fun k => ?_) hb, hP.trans ⟨fun h => ⟨q, h⟩, fun h => h.2⟩⟩
      simp only [impl_areUnit.l0]; rw [if_pos (by omega), if_pos (by omega), if_pos (by omega), rdJ hi, if_pos q, wr1 (by omega)]
    · refine evB_of (fun h => absurd h.1 q) (fun _ => ev_stop fun k => ?_)
      simp only [impl_areUnit.l0]; rw [if_pos (by omega), if_pos (by omega), if_pos (by omega), rdJ hi, if_neg q]

theorem core_UnitGreedy (jobs : List J) (hj : jobs.length ≤ 1048576) : ∃ r b, Ev (fun k => spec_UnitGreedy.f k jobs) (r, b) ∧ Ev (fun k => impl_UnitGreedy.f k jobs) (r, b) ∧ r.length ≤ 1048576 := by
  unfold spec_UnitGreedy.f impl_UnitGreedy.f
  have es := spec_l10Unit.ev jobs (by omega)
  have ei := impl_areUnit.ev jobs (by omega)
  by_cases h : OneLong jobs ∧ PlainOk jobs
  · have hJ := h.2.1
    have h8 := hJ.1
    have hw : ∀ x ∈ nums_to jobs.length, 0 ≤ (rd_T54 jobs x).f1 ∧ (rd_T54 jobs x).f1 < ((51 : Nat) : Int) := fun x hx => by
      have h1 := mem_nums_to.1 hx
      have := rdJ_ok hJ h1.1 h1.2
      unfold JobOk at this; omega
    have he := byKey_eq (f := fun x => (rd_T54 jobs x).f1) (n := jobs.length) 51 hw
    have set0 : SetOk jobs.length [] := ⟨fun j hj => absurd hj (by simp), by simp⟩
    have hs := spec_UnitGreedy.out_ev hJ 51 [] (by omega) set0 (by simp)
    rw [← he] at hs
    have hp := sortN_perm (fun a b => decide ((rd_T54 jobs b).f1 < (rd_T54 jobs a).f1)) jobs.length
    have hl := impl_UnitGreedy.lp_ev hJ (sortN (fun a b => decide ((rd_T54 jobs b).f1 < (rd_T54 jobs a).f1)) jobs.length) [] (hp.nodup_iff.2 (nums_to_nodup _)) (fun x hx => mem_nums_to.1 (hp.mem_iff.1 hx)) set0 (by simp)
    have hk := ugFold_ok (jobs := jobs) (sortN (fun a b => decide ((rd_T54 jobs b).f1 < (rd_T54 jobs a).f1)) jobs.length) [] (hp.nodup_iff.2 (nums_to_nodup _)) (fun x hx => mem_nums_to.1 (hp.mem_iff.1 hx)) set0 (by simp)
    refine ⟨ugFold jobs (sortN (fun a b => decide ((rd_T54 jobs b).f1 < (rd_T54 jobs a).f1)) jobs.length) [], true, ev_guard' es (fun _ => ?_) (fun hn => absurd h hn), ev_guard' ei (fun _ => ev_bind _ (impl_numbersTo.ev jobs.length (by omega)) ?_) (fun hn => absurd h hn), by have := hk.1.len; omega⟩
    · simp only [if_pos (show jobs.length ≤ 1048576 from hj)]
      exact ev_bind _ hs (Ev.now _)
    · have hg : (nums_to jobs.length).length ≤ 1048576 ∧ ∀ x ∈ nums_to jobs.length, 0 ≤ x ∧ x < (jobs.length : Int) := ⟨by rw [nums_to_length]; omega, fun x hx => mem_nums_to.1 hx⟩
      simp only [if_pos hg]
      exact ev_bind _ hl (Ev.now _)
  · exact ⟨[], false, ev_guard' es (fun h1 => absurd h1 h) (fun _ => Ev.now _), ev_guard' ei (fun h1 => absurd h1 h) (fun _ => Ev.now _), by simp⟩

end Go.Proofs.Ytafjdcjaigmnaaa.Pure
