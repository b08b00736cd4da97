-- Written by a program of this session (the kit's print, widened). Proved here: what each function answers, for the arguments that its contract names.
import Derived.Test.YtbcfmegepkhlpaaXFnExactTailsFirstx0
import Derived.Test.YtbcfmegepkhlpaaXFnExactTailsFirstx2
import Derived.Test.YtbcfmegepkhlpaaXFnExactTailsFirstx20
import Derived.Test.YtbcfmegepkhlpaaXFnExactTailsFirstx21
import Derived.Test.YtbcfmegepkhlpaaXFnExactTailsFirstx22
import Derived.Test.YtbcfmegepkhlpaaXFnExactTailsFirstx23
import Derived.Test.YtbcfmegepkhlpaaXFnExactTailsFirstx24
namespace Go.Proofs.Ytbcfmegepkhlpaa.XFnExactTailsFirst
open Go.RowKit Go.Proofs.YtbcfmegepkhlpaaW.PrintWords Go.Proofs.YtbcfmegepkhlpaaW.PrintLast Go.Proofs.YtbcfmegepkhlpaaW.PrintMore
attribute [local go_sem] max2_int min2_int max_two min_two max_three min_three max_four min_four   -- for this text's walks alone
attribute [local go_sem] idxA_72_0 idxA_72_1 fldS_96_0 fldS_96_1 fldS_96_2 fldS_111_0 fldS_111_1 fldS_111_2
set_option linter.unusedVariables false
set_option linter.unusedSimpArgs false

/-! ### impl_TailsFirst: function 35, by hand -/
/-! ### impl_TailsFirst, by hand -/
set_option maxHeartbeats 8000000 in
set_option maxRecDepth 100000 in
theorem impl_TailsFirst1.cmp (box:Addr) (A0:Option Addr) (c0:Nat) (l0:List Int) (W:World) (hbox:W.cell? box=some (.slice A0 l0.length c0)) (hr:Kd.C (Kd.int .i64) W A0 l0.length l0) (a b:Int) (ha:0≤a∧a<l0.length) (hb:0≤b∧b<l0.length) :
  Calls Try.prog 80 #[.int .i64 a,.int .i64 b,.pointer (some box)] W fun e W'=>e=.returned (.bool (decide (rd l0 b<rd l0 a)))∧∃ n,W'=W.drewN n:=by
 obtain ⟨ad1,e1,hx1⟩:=Kd.at_int hr a ha.1 ha.2
 obtain ⟨ad2,e2,hx2⟩:=Kd.at_int hr b hb.1 hb.2
 subst e1
 obtain rfl:ad1=ad2:=by injection e2
 clear hr e2
 have p1:=eq_true ha.1
 have q1:=eq_true ha.2
 have p2:=eq_true hb.1
 have q2:=eq_true hb.2
 clear ha hb
 go_enter Try.func80,Try.ntmps80
 go_wp2
 go_region
 all_goals (go_wp2;go_ret;exact ⟨rfl,1,rfl⟩)
def impl_TailsFirst.f (k:Nat) (l0:List S76) (a1:Int) (l2:List S72):Option (List S92 × Bool):=(impl_isParallel.f k l0 a1 l2).bind fun b=>if b=true then ((impl_tailsOf.f k l0 l2).bind fun (tl:List Int)=>(impl_numbersTo.f k (l0.length:Int)).bind fun (r1:List Int)=>if r1.length≤1048576∧∀ x ∈ r1,0≤x∧x<(tl.length:Int) then (impl_listPlan.f k l0 a1 l2 (insAll (fun a b=>decide (rd tl b<rd tl a)) r1 [])).bind fun r=>some (r,true) else none) else some ([],false)
theorem impl_TailsFirst.mono:∀ l0 a1 l2 k,LeO (impl_TailsFirst.f k l0 a1 l2) (impl_TailsFirst.f (k + 1) l0 a1 l2):=by
 intro l0 a1 l2 k r h
 unfold impl_TailsFirst.f at h ⊢
 obtain ⟨b,h1,h2⟩:=Option.bind_eq_some_iff.1 h
 rw [impl_isParallel.mono _ _ _ _ _ h1,Option.bind_some]
 split at h2
 ·rename_i c
  rw [if_pos c]
  obtain ⟨tl,h7,h2⟩:=Option.bind_eq_some_iff.1 h2
  rw [impl_tailsOf.mono _ _ _ _ h7,Option.bind_some]
  obtain ⟨r1,h3,h4⟩:=Option.bind_eq_some_iff.1 h2
  rw [impl_numbersTo.mono _ _ _ h3,Option.bind_some]
  split at h4
  ·rename_i c2
   rw [if_pos c2]
   obtain ⟨r2,h5,h6⟩:=Option.bind_eq_some_iff.1 h4
   rw [impl_listPlan.mono _ _ _ _ _ _ h5,Option.bind_some]
   exact h6
  ·cases h4
 ·rename_i c
  rw [if_neg c]
  exact h2
set_option maxHeartbeats 8000000 in
set_option maxRecDepth 100000 in
theorem impl_TailsFirst.calls (k:Nat) (A0:Option Addr) (c0:Nat) (l0:List (S76)) (a1:Int) (A2:Option Addr) (c2:Nat) (l2:List (S72)) (r1:List (S92)) (r2:Bool) (w:World) (hr0:Kd.C k76 w A0 l0.length l0) (hc0:l0.length≤c0) (hr2:Kd.C k72 w A2 l2.length l2) (hc2:l2.length≤c2) (h:impl_TailsFirst.f k l0 a1 l2=some (r1,r2)) :
  Calls Try.prog 35 #[.slice A0 l0.length c0,.int .i64 a1,.slice A2 l2.length c2] w fun e w'=>∃ v0_:Value,e=.returned (.tuple #[v0_,.bool r2])∧Kd.R k92 92 w' w.heap.size (fun _=>True) v0_ r1∧Below w.heap.size w w':=by
 unfold impl_TailsFirst.f at h
 obtain ⟨b,h1,h2⟩:=Option.bind_eq_some_iff.1 h
 clear h
 have HR0:=Aside0.mk hr0
 have HC0:=Aside0.mk hc0
 have HR2:=Aside0.mk hr2
 have HC2:=Aside0.mk hc2
 have H1:=Aside0.mk h1
 have H2:=Aside0.mk h2
 have HB:=Aside0.mk (Below.refl w.heap.size w)
 clear hr0 hc0 hr2 hc2 h1 h2
 go_enter Try.func35,Try.ntmps35
 go_wp2_with (fail)
 refine (impl_isParallel.calls k _ _ l0 a1 _ _ l2 b _ (Kd.C_below HR0.out (by repeat (first|exact HB.out|apply below_alloc|apply pw_below_drewN|apply below_drew1))) HC0.out (Kd.C_below HR2.out (by repeat (first|exact HB.out|apply below_alloc|apply pw_below_drewN|apply below_drew1))) HC2.out H1.out).mono ?_
 rintro e w2 ⟨rfl,hb⟩
 dsimp only
 have HB2:=Aside0.mk (below_step (by repeat (first|exact HB.out|apply below_alloc|apply pw_below_drewN|apply below_drew1)) hb)
 clear HB hb
 cases b with
 | false=>
  obtain ⟨rfl,rfl⟩:([]:List S92)=r1∧false=r2:=by have:=H2.out;simpa using this
  go_wp2
  go_ret2
  exact ⟨_,rfl,Kd.R_nil _ _ _ _ _,by repeat (first|exact HB2.out|apply below_alloc|apply pw_below_drewN|apply below_drew1)⟩
 | true=>
  have h2:=H2.out
  rw [if_pos rfl] at h2
  obtain ⟨tl,h7,h2⟩:=Option.bind_eq_some_iff.1 h2
  obtain ⟨n1,h3,h4⟩:=Option.bind_eq_some_iff.1 h2
  split at h4
  case isFalse=>cases h4
  case isTrue hg=>
  obtain ⟨p1,h5,h6⟩:=Option.bind_eq_some_iff.1 h4
  obtain ⟨rfl,rfl⟩:p1=r1∧true=r2:=by simpa using h6
  have H7:=Aside0.mk h7
  have H3:=Aside0.mk h3
  have H5:=Aside0.mk h5
  have HG:=Aside0.mk hg
  clear h2 h3 h4 h5 h6 h7 hg H2
  go_wp2_with (fail)
  refine (impl_tailsOf.calls k _ _ l0 _ _ l2 tl _ (Kd.C_below HR0.out (by repeat (first|exact HB2.out|apply below_alloc|apply pw_below_drewN|apply below_drew1))) HC0.out (Kd.C_below HR2.out (by repeat (first|exact HB2.out|apply below_alloc|apply pw_below_drewN|apply below_drew1))) HC2.out H7.out).mono ?_
  rintro e w7 ⟨v7,rfl,ho0,hb⟩
  dsimp only
  have HB7:=Aside0.mk (below_step (by repeat (first|exact HB2.out|apply below_alloc|apply pw_below_drewN|apply below_drew1)) hb)
  have HO7:=Aside0.mk ho0
  clear HB2 ho0 hb
  obtain ⟨Ao7,co7,eo7⟩:=Kd.R_slice HO7.out
  subst eo7
  go_wp2_with (fail)
  refine (impl_numbersTo.calls k _ n1 _ H3.out).mono ?_
  rintro e w3 ⟨v3,rfl,ho0,hb⟩
  dsimp only
  have BX3:Aside0 (Boxed w3 w7.heap.size 43 (.slice Ao7 tl.length co7)):=⟨boxed_below (boxed_alloc rfl) hb⟩
  have CT3:=Aside0.mk (Kd.C_below (Kd.C_below (Kd.R_reads' HO7.out).2.2 (below_alloc (Below.refl _ _) _)) hb)
  have HB3:=Aside0.mk (below_step (by repeat (first|exact HB7.out|apply below_alloc|apply pw_below_drewN|apply below_drew1)) hb)
  have HO3:=Aside0.mk ho0
  clear HB7 HO7 ho0 hb
  obtain ⟨Ao3,co3,eo3⟩:=Kd.R_slice HO3.out
  subst eo3
  go_wp2_with (fail)
  refine (impl_sortedBy.calls 80 ?eg #[.pointer (some ⟨w7.heap.size,0,none⟩)] (fun a b=>decide (rd tl b<rd tl a)) (fun x=>0≤x∧x<(tl.length:Int)) Ao3 co3 n1 _ (Kd.R_reads' HO3.out).2.2 (Kd.R_reads' HO3.out).2.1 HG.out.2 HG.out.1 ?cmp).mono ?_
  case eg=>intro args w;go_simp
  case cmp=>intro W hW a b ha hb;exact impl_TailsFirst1.cmp _ Ao7 co7 tl W (boxed_below BX3.out hW).cell (Kd.C_below CT3.out hW) a b ha hb
  rintro e w4 ⟨v4,rfl,ho0,hb⟩
  dsimp only
  have HB4:=Aside0.mk (below_step HB3.out hb)
  have HO4:=Aside0.mk ho0
  clear BX3 CT3 HB3 HO3 ho0 hb
  obtain ⟨Ao4,co4,eo4⟩:=Kd.R_slice HO4.out
  subst eo4
  go_wp2_with (fail)
  refine (impl_listPlan.calls k _ _ l0 a1 _ _ l2 _ _ _ _ _ (Kd.C_below HR0.out (by repeat (first|exact HB4.out|apply below_alloc|apply pw_below_drewN|apply below_drew1))) HC0.out (Kd.C_below HR2.out (by repeat (first|exact HB4.out|apply below_alloc|apply pw_below_drewN|apply below_drew1))) HC2.out (Kd.R_reads' HO4.out).2.2 (Kd.R_reads' HO4.out).2.1 H5.out).mono ?_
  rintro e w5 ⟨v5,rfl,ho0,hb⟩
  dsimp only
  have HB5:=Aside0.mk (below_step (by repeat (first|exact HB4.out|apply below_alloc|apply pw_below_drewN|apply below_drew1)) hb)
  have HO5:=Aside0.mk (Kd.R_lower ho0 (below_size (by repeat (first|exact HB4.out|apply below_alloc|apply pw_below_drewN|apply below_drew1))))
  clear HB4 HO4 ho0 hb
  go_wp2
  go_ret2
  exact ⟨_,rfl,zR HO5.out,by repeat (first|exact HB5.out|apply below_alloc|apply pw_below_drewN|apply below_drew1)⟩

end Go.Proofs.Ytbcfmegepkhlpaa.XFnExactTailsFirst
-- minified
