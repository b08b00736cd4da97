import Derived.Test.YtndcbfifmafcoaaXFnTailsFirstx8
import Derived.Test.YtndcbfifmafcoaaXFnTailsFirstx9
import Derived.Test.YtndcbfifmafcoaaXFnTailsFirstx11
import Derived.Test.YtndcbfifmafcoaaXFnTailsFirstx13
import Derived.Test.YtndcbfifmafcoaaXFnTailsFirstx14
namespace Go.Proofs.Ytndcbfifmafcoaa.XFnTailsFirst
set_option maxRecDepth 100000
set_option maxHeartbeats 8000000
open Go.RowKit Go.Proofs.YtndcbfifmafcoaaW.PrintWords Go.Proofs.YtndcbfifmafcoaaW.PrintLast Go.Proofs.YtndcbfifmafcoaaW.PrintMore
set_option linter.unusedVariables false
set_option linter.unusedSimpArgs false
theorem impl_TailsFirst1.cmp (box:Addr) (A0:Option Addr) (c0:Nat) (l0:List Int) (W:World) (hbox:W.cell? box=some (.slice A0 l0.length c0)) (hr:Kd.C (Kd.int .i64) W A0 l0.length l0) (a b:Int) (ha:0<=a/\a<l0.length) (hb:0<=b/\b<l0.length) :
  Calls Try.prog 30 #[.int .i64 a,.int .i64 b,.pointer (some box)] W fun e W'=>e=.returned (.bool (decide (rd l0 b<rd l0 a)))/\∃ n,W'=W.drewN n:=by
 obtain ⟨ad1,e1,hx1⟩:=Kd.at_int hr a ha.1 ha.2;obtain ⟨ad2,e2,hx2⟩:=Kd.at_int hr b hb.1 hb.2;subst e1;obtain rfl:ad1=ad2:=by injection e2
 clear hr e2;have p1:=eq_true ha.1;have q1:=eq_true ha.2;have p2:=eq_true hb.1;have q2:=eq_true hb.2;clear ha hb
 go_enter Try.func30,Try.ntmps30
 go_wp2
 go_region
 all_goals (go_wp2;go_ret;exact ⟨rfl,1,rfl⟩)
def impl_TailsFirst.f (k:Nat) (l0:List S44) (a1:Int) (l2:List S42):Option (List S73 × Bool):=(impl_isParallel.f k l0 a1 l2).bind fun b=>if b=true then ((impl_tailsOf.f k l0 l2).bind fun (tl:List Int)=>(impl_numbersTo.f k (l0.length:Int)).bind fun (r1:List Int)=>if r1.length<=1048576/\∀ x ∈ r1,0<=x/\x<(tl.length:Int) then (impl_listPlan.f k l0 a1 l2 (insAll (fun a b=>decide (rd tl b<rd tl a)) r1 [])).bind fun r=>some (r,true) else none) else some ([],false)
theorem impl_TailsFirst.calls (k:Nat) (A0:Option Addr) (c0:Nat) (l0:List (S44)) (a1:Int) (A2:Option Addr) (c2:Nat) (l2:List (S42)) (r1:List (S73)) (r2:Bool) (w:World) (hr0:Kd.C k44 w A0 l0.length l0) (hc0:l0.length<=c0) (hr2:Kd.C k42 w A2 l2.length l2) (hc2:l2.length<=c2) (h:impl_TailsFirst.f k l0 a1 l2=some (r1,r2)) :
  Calls Try.prog 6 #[.slice A0 l0.length c0,.int .i64 a1,.slice A2 l2.length c2] w fun e w'=>∃ v0_:Value,e=.returned (.tuple #[v0_,.bool r2])/\Kd.R k73 73 w' w.heap.size (fun _=>True) v0_ r1/\Below w.heap.size w w':=by
 unfold impl_TailsFirst.f at h;obtain ⟨b,h1,h2⟩:=Option.bind_eq_some_iff.1 h;clear h;have HR0:=ak_ hr0;have HC0:=ak_ hc0;have HR2:=ak_ hr2;have HC2:=ak_ hc2;have H1:=ak_ h1;have H2:=ak_ h2;have HB:=ak_ (Below.refl w.heap.size w);clear hr0 hc0 hr2 hc2 h1 h2
 go_enter Try.func6,Try.ntmps6
 go_wp2_with (fail)
 refine (impl_isParallel.calls k _ _ l0 a1 _ _ l2 b _ (Kd.C_below HR0.out zz14) HC0.out (Kd.C_below HR2.out zz14) HC2.out H1.out).mono ?_;rintro e w2 ⟨rfl,hb⟩
 dsimp only
 have HB2:=ak_ (below_step zz14 hb);clear HB hb;cases b with
 | false=>
  obtain ⟨rfl,rfl⟩:([]:List S73)=r1/\false=r2:=by have:=H2.out;simpa using this
  go_wp2
  go_ret2
  exact ⟨_,rfl,Kd.R_nil _ _ _ _ _,zz55⟩
 | true=>
  have h2:=H2.out;rw [if_pos rfl] at h2;obtain ⟨tl,h7,h2⟩:=Option.bind_eq_some_iff.1 h2;obtain ⟨n1,h3,h4⟩:=Option.bind_eq_some_iff.1 h2
  split at h4
  case isFalse=>cases h4
  case isTrue hg=>
  obtain ⟨p1,h5,h6⟩:=Option.bind_eq_some_iff.1 h4;obtain ⟨rfl,rfl⟩:p1=r1/\true=r2:=by simpa using h6
  have H7:=ak_ h7;have H3:=ak_ h3;have H5:=ak_ h5;have HG:=ak_ hg;clear h2 h3 h4 h5 h6 h7 hg H2
  go_wp2_with (fail)
  refine (impl_tailsOf.calls k _ _ l0 _ _ l2 tl _ (Kd.C_below HR0.out zz55) HC0.out (Kd.C_below HR2.out zz55) HC2.out H7.out).mono ?_;rintro e w7 ⟨v7,rfl,ho0,hb⟩
  dsimp only
  have HB7:=ak_ (below_step zz55 hb);have HO7:=ak_ ho0;clear HB2 ho0 hb;obtain ⟨Ao7,co7,rfl⟩:=Kd.R_slice HO7.out
  go_wp2_with (fail)
  refine (impl_numbersTo.calls k _ n1 _ H3.out).mono ?_;rintro e w3 ⟨v3,rfl,ho0,hb⟩
  dsimp only
  have BX3:Aside0 (Boxed w3 w7.heap.size 34 (.slice Ao7 tl.length co7)):=⟨boxed_below (boxed_alloc rfl) hb⟩;have CT3:=ak_ (Kd.C_below (Kd.C_below (r2_ HO7) (below_alloc (Below.refl _ _) _)) hb);have HB3:=ak_ (below_step (by repeat (first|exact HB7.out|apply below_alloc)) hb);have HO3:=ak_ ho0;clear HB7 HO7 ho0 hb;obtain ⟨Ao3,co3,rfl⟩:=Kd.R_slice HO3.out
  go_wp2_with (fail)
  refine (impl_sortedBy.calls 30 ?eg #[.pointer (some ⟨w7.heap.size,0,none⟩)] (fun a b=>decide (rd tl b<rd tl a)) (fun x=>0<=x/\x<(tl.length:Int)) Ao3 co3 n1 _ (r2_ HO3) (r1_ HO3) HG.out.2 HG.out.1 ?cmp).mono ?_
  case eg=>intro args w;go_simp
  case cmp=>intro W hW a b ha hb;exact impl_TailsFirst1.cmp _ Ao7 co7 tl W (boxed_below BX3.out hW).cell (Kd.C_below CT3.out hW) a b ha hb
  rintro e w4 ⟨v4,rfl,ho0,hb⟩
  dsimp only
  have HB4:=ak_ (below_step HB3.out hb);have HO4:=ak_ ho0;clear BX3 CT3 HB3 HO3 ho0 hb;obtain ⟨Ao4,co4,rfl⟩:=Kd.R_slice HO4.out
  go_wp2_with (fail)
  refine (impl_listPlan.calls k _ _ l0 a1 _ _ l2 _ _ _ _ _ (Kd.C_below HR0.out zz47) HC0.out (Kd.C_below HR2.out zz47) HC2.out (r2_ HO4) (r1_ HO4) H5.out).mono ?_;rintro e w5 ⟨v5,rfl,ho0,hb⟩
  dsimp only
  have HB5:=ak_ (below_step zz47 hb);have HO5:=ak_ (Kd.R_lower ho0 (below_size zz47));clear HB4 HO4 ho0 hb
  go_wp2
  go_ret2
  exact ⟨_,rfl,zR HO5.out,by repeat (exact HB5.out)⟩
