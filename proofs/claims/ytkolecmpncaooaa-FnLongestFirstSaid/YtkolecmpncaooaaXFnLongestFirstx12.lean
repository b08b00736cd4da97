-- Words and walks of this claim.
import Derived.Test.YtkolecmpncaooaaXFnLongestFirstx7
import Derived.Test.YtkolecmpncaooaaXFnLongestFirstx9
import Derived.Test.YtkolecmpncaooaaXFnLongestFirstx11
namespace Go.Proofs.Ytkolecmpncaooaa.XFnLongestFirst
set_option maxRecDepth 100000
set_option maxHeartbeats 8000000
open Go.RowKit Go.Proofs.YtkolecmpncaooaaW.PrintWords Go.Proofs.YtkolecmpncaooaaW.PrintLast Go.Proofs.YtkolecmpncaooaaW.PrintMore
attribute [local go_sem] max2_int min2_int max_two min_two max_three min_three max_four min_four
attribute [local go_sem] idxA_51_0 idxA_51_1 fldS_45_0 fldS_45_1 fldS_45_2 fldS_96_0 fldS_96_1 fldS_96_2
set_option linter.unusedVariables false
set_option linter.unusedSimpArgs false
theorem impl_LongestFirst1.cmp (box:Addr) (A0:Option Addr) (c0:Nat) (l0:List (S31)) (W:World) (hbox:W.cell? box=some (.slice A0 l0.length c0)) (hr:Kd.C k31 W A0 l0.length l0) (a b:Int) (ha:0<=a/\a<l0.length) (hb:0<=b/\b<l0.length) :
  Calls Try.prog 37 #[.int .i64 a,.int .i64 b,.pointer (some box)] W fun e W'=>e=.returned (.bool (decide ((rd_T31 l0 b).f0<(rd_T31 l0 a).f0)))/\∃ n,W'=W.drewN n:=by
 obtain ⟨ad1,e1,hx1,_,_,_⟩:=at_T31 hr a ha.1 ha.2
 obtain ⟨ad2,e2,hx2,_,_,_⟩:=at_T31 hr b hb.1 hb.2
 subst e1
 obtain rfl:ad1=ad2:=by injection e2
 clear hr e2
 have p1:=eq_true ha.1
 have q1:=eq_true ha.2
 have p2:=eq_true hb.1
 have q2:=eq_true hb.2
 clear ha hb
 go_enter Try.func37,Try.ntmps37
 go_wp2
 go_region
 all_goals (go_wp2;go_ret;exact ⟨rfl,1,rfl⟩)
def impl_LongestFirst.f (k:Nat) (l0:List S31) (a1:Int):Option (List S40 × Bool):=(impl_isParallel.f k l0 a1 []).bind fun b=>if b=true then ((impl_numbersTo.f k (l0.length:Int)).bind fun r1=>if r1.length<=1048576/\∀ x ∈ r1,0<=x/\x<(l0.length:Int) then (impl_listPlan.f k l0 a1 [] (insAll (fun a b=>decide ((rd_T31 l0 b).f0<(rd_T31 l0 a).f0)) r1 [])).bind fun r=>some (r,true) else none) else some ([],false)
theorem impl_LongestFirst.calls (k:Nat) (A0:Option Addr) (c0:Nat) (l0:List (S31)) (a1:Int) (r1:List (S40)) (r2:Bool) (w:World) (hr0:Kd.C k31 w A0 l0.length l0) (hc0:l0.length<=c0) (h:impl_LongestFirst.f k l0 a1=some (r1,r2)) :
  Calls Try.prog 12 #[.slice A0 l0.length c0,.int .i64 a1] w fun e w'=>∃ v0_:Value,e=.returned (.tuple #[v0_,.bool r2])/\Kd.R k40 40 w' w.heap.size (fun _=>True) v0_ r1/\Below w.heap.size w w':=by
 unfold impl_LongestFirst.f at h
 obtain ⟨b,h1,h2⟩:=Option.bind_eq_some_iff.1 h
 clear h
 have HR0:=ak_ hr0
 have HC0:=ak_ hc0
 have H1:=ak_ h1
 have H2:=ak_ h2
 have HB:=ak_ (Below.refl w.heap.size w)
 clear hr0 hc0 h1 h2
 go_enter Try.func12,Try.ntmps12
 go_wp2_with (fail)
 refine (impl_isParallel.calls k _ _ l0 a1 none 0 [] b _ (Kd.C_below HR0.out zz59) HC0.out (Kd.C_nil _ _) (Nat.le_refl _) H1.out).mono ?_
 rintro e w2 ⟨rfl,hb⟩
 dsimp only
 have BXJ:Aside0 (Boxed w2 w.heap.size 24 (.slice A0 l0.length c0)):=⟨boxed_below (boxed_alloc rfl) hb⟩
 have HB2:=ak_ (below_step zz59 hb)
 clear HB hb
 have XJ:=BXJ.out.cell
 cases b with
 | false=>
  obtain ⟨rfl,rfl⟩:([]:List S40)=r1/\false=r2:=by have:=H2.out;simpa using this
  go_wp2
  go_ret2
  exact ⟨_,rfl,Kd.R_nil _ _ _ _ _,by repeat (exact HB2.out)⟩
 | true=>
  have h2:=H2.out
  rw [if_pos rfl] at h2
  obtain ⟨n1,h3,h4⟩:=Option.bind_eq_some_iff.1 h2
  split at h4
  case isFalse=>cases h4
  case isTrue hg=>
  obtain ⟨p1,h5,h6⟩:=Option.bind_eq_some_iff.1 h4
  obtain ⟨rfl,rfl⟩:p1=r1/\true=r2:=by simpa using h6
  have H3:=ak_ h3
  have H5:=ak_ h5
  have HG:=ak_ hg
  clear h2 h3 h4 h5 h6 hg H2
  go_wp2_with (fail)
  refine (impl_numbersTo.calls k _ n1 _ H3.out).mono ?_
  rintro e w3 ⟨v3,rfl,ho0,hb⟩
  dsimp only
  have BX3:=ak_ (boxed_below BXJ.out (below_step (by repeat (exact Below.refl _ _)) hb))
  have HB3:=ak_ (below_step (by repeat (exact HB2.out)) hb)
  have HO3:=ak_ ho0
  clear BXJ HB2 XJ ho0 hb
  have XJ:=BX3.out.cell
  obtain ⟨Ao3,co3,eo3⟩:=Kd.R_slice HO3.out
  subst eo3
  go_wp2_with (fail)
  refine (impl_sortedBy.calls 37 ?eg #[.pointer (some ⟨w.heap.size,0,none⟩)] (fun a b=>decide ((rd_T31 l0 b).f0<(rd_T31 l0 a).f0)) (fun x=>0<=x/\x<(l0.length:Int)) Ao3 co3 n1 _ (Kd.R_reads' HO3.out).2.2 (Kd.R_reads' HO3.out).2.1 HG.out.2 HG.out.1 ?cmp).mono ?_
  case eg=>intro args w;go_simp
  case cmp=>intro W hW a b ha hb;exact impl_LongestFirst1.cmp _ A0 c0 l0 W (boxed_below BX3.out hW).cell (Kd.C_below HR0.out (below_step HB3.out hW)) a b ha hb
  rintro e w4 ⟨v4,rfl,ho0,hb⟩
  dsimp only
  have BX4:=ak_ (boxed_below BX3.out hb)
  have HB4:=ak_ (below_step HB3.out hb)
  have HO4:=ak_ ho0
  clear BX3 HB3 HO3 XJ ho0 hb
  have XJ:=BX4.out.cell
  obtain ⟨Ao4,co4,eo4⟩:=Kd.R_slice HO4.out
  subst eo4
  go_wp2_with (fail)
  refine (impl_listPlan.calls k _ _ l0 a1 none 0 [] _ _ _ _ _ (Kd.C_below HR0.out (by repeat (exact HB4.out))) HC0.out (Kd.C_nil _ _) (Nat.le_refl _) (Kd.R_reads' HO4.out).2.2 (Kd.R_reads' HO4.out).2.1 H5.out).mono ?_
  rintro e w5 ⟨v5,rfl,ho0,hb⟩
  dsimp only
  have HB5:=ak_ (below_step (by repeat (exact HB4.out)) hb)
  have HO5:=ak_ (Kd.R_lower ho0 (below_size (by repeat (exact HB4.out))))
  clear HB4 HO4 ho0 hb XJ BX4
  go_wp2
  go_wp2
  go_ret2
  exact ⟨_,rfl,zR HO5.out,by repeat (exact HB5.out)⟩
