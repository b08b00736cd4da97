-- Words and walks of this claim.
import Derived.Test.YtkolecmpncaooaaXFnLongestFirstx9
import Derived.Test.YtkolecmpncaooaaXFnLongestFirstx22
namespace Go.Proofs.Ytkolecmpncaooaa.XFnLongestFirst
set_option maxRecDepth 100000
set_option maxHeartbeats 8000000
open Go.RowKit Go.Proofs.YtkolecmpncaooaaW.PrintWords Go.Proofs.YtkolecmpncaooaaW.PrintLast Go.Proofs.YtkolecmpncaooaaW.PrintMore
attribute [local go_sem] max2_int min2_int max_two min_two max_three min_three max_four min_four
attribute [local go_sem] idxA_51_0 idxA_51_1 fldS_45_0 fldS_45_1 fldS_45_2 fldS_96_0 fldS_96_1 fldS_96_2
set_option linter.unusedVariables false
set_option linter.unusedSimpArgs false
def diffO (l0:List S31) (a2:Int) (a b:Int):Option Int:=impl_difference.f (rd_T31 l0 a).f0 (rd_T31 l0 a).f1 (rd_T31 l0 a).f2 (rd_T31 l0 a).f3 (rd_T31 l0 b).f0 (rd_T31 l0 b).f1 (rd_T31 l0 b).f2 (rd_T31 l0 b).f3 a2
def ruledLt (l0:List S31) (a2:Int):Int->Int->Bool:=fun a b=>decide ((diffO l0 a2 a b).getD 0<0)
theorem impl_ruledOrder1.diff (bj bo:Nat) (c0:Nat) (l0:List S31) (a2:Int) (ad:Addr) (W w3':World) (hd:Below W.heap.size W w3') (hr:Kd.C k31 W (some ad) l0.length l0) (xj:Boxed W bj 24 (.slice (some ad) l0.length c0)) (xo:Boxed W bo 3 (.int .i64 a2)) (a b:Int) (ha:0<=a/\a<l0.length) (hb:0<=b/\b<l0.length) (d:Int) (h:diffO l0 a2 a b=some d) :
  Calls Try.prog 87 #[.agg #[.int .i64 (rd_T31 l0 a).f0,.int .i64 (rd_T31 l0 a).f1,.int .i64 (rd_T31 l0 a).f2,.int .i64 (rd_T31 l0 a).f3],.agg #[.int .i64 (rd_T31 l0 b).f0,.int .i64 (rd_T31 l0 b).f1,.int .i64 (rd_T31 l0 b).f2,.int .i64 (rd_T31 l0 b).f3],.int .i64 a2] w3' fun e w4=>e=.returned (.int .i64 d)/\Aside0 (Below W.heap.size W w4)/\w4.cell? ⟨bj,0,none⟩=some (.slice (some ad) l0.length c0)/\w4.cell? ⟨bo,0,none⟩=some (.int .i64 a2)/\w4.cell? (ad.add (a.toNat * 4))=some (.int .i64 (rd_T31 l0 a).f0)/\w4.cell? ⟨(ad.add (a.toNat * 4)).block,(ad.add (a.toNat * 4)).off + 1,none⟩=some (.int .i64 (rd_T31 l0 a).f1)/\w4.cell? ⟨(ad.add (a.toNat * 4)).block,(ad.add (a.toNat * 4)).off + 2,none⟩=some (.int .i64 (rd_T31 l0 a).f2)/\w4.cell? ⟨(ad.add (a.toNat * 4)).block,(ad.add (a.toNat * 4)).off + 3,none⟩=some (.int .i64 (rd_T31 l0 a).f3)/\w4.cell? (ad.add (b.toNat * 4))=some (.int .i64 (rd_T31 l0 b).f0)/\w4.cell? ⟨(ad.add (b.toNat * 4)).block,(ad.add (b.toNat * 4)).off + 1,none⟩=some (.int .i64 (rd_T31 l0 b).f1)/\w4.cell? ⟨(ad.add (b.toNat * 4)).block,(ad.add (b.toNat * 4)).off + 2,none⟩=some (.int .i64 (rd_T31 l0 b).f2)/\w4.cell? ⟨(ad.add (b.toNat * 4)).block,(ad.add (b.toNat * 4)).off + 3,none⟩=some (.int .i64 (rd_T31 l0 b).f3):=by
 refine (impl_difference.calls _ _ _ _ _ _ _ _ a2 d _ h).mono ?_
 rintro e w4 ⟨rfl,hb4⟩
 have hB4:=below_step hd hb4
 have hr4:=Kd.C_below hr hB4
 obtain ⟨ad1,e1,h10,h11,h12,h13⟩:=at_T31 hr4 a ha.1 ha.2
 obtain ⟨ad2,e2,h20,h21,h22,h23⟩:=at_T31 hr4 b hb.1 hb.2
 injection e1 with e1
 subst e1
 injection e2 with e2
 subst e2
 exact ⟨rfl,⟨hB4⟩,(boxed_below xj hB4).cell,(boxed_below xo hB4).cell,h10,h11,h12,h13,h20,h21,h22,h23⟩
theorem impl_ruledOrder1.cmp (bj bo:Nat) (A0:Option Addr) (c0:Nat) (l0:List S31) (a2:Int) (W:World) (xj:Boxed W bj 24 (.slice A0 l0.length c0)) (xo:Boxed W bo 3 (.int .i64 a2)) (hr:Kd.C k31 W A0 l0.length l0) (a b:Int) (ha:0<=a/\a<l0.length) (hb:0<=b/\b<l0.length) (d:Int) (hd:diffO l0 a2 a b=some d) :
  Calls Try.prog 86 #[.int .i64 a,.int .i64 b,.pointer (some ⟨bj,0,none⟩),.pointer (some ⟨bo,0,none⟩)] W fun e W'=>e=.returned (.bool (ruledLt l0 a2 a b))/\Below W.heap.size W W':=by
 obtain ⟨ad,e1,h10,h11,h12,h13⟩:=at_T31 hr a ha.1 ha.2
 subst e1
 obtain ⟨ad2,e2,h20,h21,h22,h23⟩:=at_T31 hr b hb.1 hb.2
 injection e2 with e2
 subst e2
 have HRES:Aside0 (ruledLt l0 a2 a b=decide (d<0)):=⟨by unfold ruledLt;rw [hd];rfl⟩
 have HD:=ak_ hd
 have HR:=ak_ hr
 have HA:=ak_ ha
 have HBB:=ak_ hb
 have BJ:=ak_ xj
 have BO:=ak_ xo
 have XJ:=xj.cell
 have XO:=xo.cell
 have p1:=eq_true ha.1
 have q1:=eq_true ha.2
 have p2:=eq_true hb.1
 have q2:=eq_true hb.2
 clear hr hd ha hb xj xo
 rw [HRES.out]
 clear HRES
 go_enter Try.func86,Try.ntmps86
 go_wp2_with (fail)
 go_region_held3 (fun w'=>w'.cell? ⟨bj,0,none⟩=some (.slice (some ad) l0.length c0)/\w'.cell? ⟨bo,0,none⟩=some (.int .i64 a2)/\w'.cell? (ad.add (a.toNat * 4))=some (.int .i64 (rd_T31 l0 a).f0)/\w'.cell? ⟨(ad.add (a.toNat * 4)).block,(ad.add (a.toNat * 4)).off + 1,none⟩=some (.int .i64 (rd_T31 l0 a).f1)/\w'.cell? ⟨(ad.add (a.toNat * 4)).block,(ad.add (a.toNat * 4)).off + 2,none⟩=some (.int .i64 (rd_T31 l0 a).f2)/\w'.cell? ⟨(ad.add (a.toNat * 4)).block,(ad.add (a.toNat * 4)).off + 3,none⟩=some (.int .i64 (rd_T31 l0 a).f3)/\w'.cell? (ad.add (b.toNat * 4))=some (.int .i64 (rd_T31 l0 b).f0)/\w'.cell? ⟨(ad.add (b.toNat * 4)).block,(ad.add (b.toNat * 4)).off + 1,none⟩=some (.int .i64 (rd_T31 l0 b).f1)/\w'.cell? ⟨(ad.add (b.toNat * 4)).block,(ad.add (b.toNat * 4)).off + 2,none⟩=some (.int .i64 (rd_T31 l0 b).f2)/\w'.cell? ⟨(ad.add (b.toNat * 4)).block,(ad.add (b.toNat * 4)).off + 3,none⟩=some (.int .i64 (rd_T31 l0 b).f3)) (go_keep) ((go_at_call 87;refine (impl_ruledOrder1.diff bj bo c0 l0 a2 ad W _ ?hd HR.out BJ.out BO.out a b HA.out HBB.out d HD.out).mono ?_;(case hd=>repeat (first|exact Below.refl _ _|apply below_drew1));rintro e w4 ⟨rfl,HB4,n1_,n2_,n3_,n4_,n5_,n6_,n7_,n8_,n9_,n10_⟩))
 all_goals
  go_wp2
  go_ret
  exact ⟨rfl,by repeat (exact HB4.out)⟩
def impl_ruledOrder.f (k:Nat) (l0:List S31) (a2:Int):Option (List Int):=(impl_numbersTo.f k (l0.length:Int)).bind fun r1=>if r1.length<=1048576/\(∀ x ∈ r1,0<=x/\x<(l0.length:Int))/\(∀ x ∈ r1,∀ y ∈ r1,(diffO l0 a2 x y).isSome=true) then some (insAll (ruledLt l0 a2) r1 []) else none
theorem impl_ruledOrder.calls (k:Nat) (A0:Option Addr) (c0:Nat) (l0:List S31) (a2:Int) (r:List Int) (w:World) (hr0:Kd.C k31 w A0 l0.length l0) (hc0:l0.length<=c0) (h:impl_ruledOrder.f k l0 a2=some r) :
  Calls Try.prog 45 #[.slice A0 l0.length c0,.int .i64 a2] w fun e w'=>∃ v0_:Value,e=.returned (v0_)/\Kd.R (Kd.int .i64) 3 w' w.heap.size (fun _=>True) v0_ r/\Below w.heap.size w w':=by
 unfold impl_ruledOrder.f at h
 obtain ⟨r1,h1,h2⟩:=Option.bind_eq_some_iff.1 h
 clear h
 split at h2
 case isFalse=>cases h2
 case isTrue h3=>
 obtain rfl:=oi_ h2
 have HR0:=ak_ hr0
 have HC0:=ak_ hc0
 have H1:=ak_ h1
 have H3:=ak_ h3
 have HB:=ak_ (Below.refl w.heap.size w)
 clear hr0 hc0 h1 h2 h3
 go_enter Try.func45,Try.ntmps45
 go_wp2_with (fail)
 refine (impl_numbersTo.calls k _ r1 _ H1.out).mono ?_
 rintro e w2 ⟨v2,rfl,ho0,hb⟩
 dsimp only
 have HJ:Aside0 (Boxed w2 (w.heap.size) 24 (.slice A0 l0.length c0)):=⟨boxed_below zz71 hb⟩
 have HO:Aside0 (Boxed w2 (w.heap.size + 1) 3 (.int .i64 a2)):=⟨boxed_below zz71 hb⟩
 have n1_:=ak_ (below_step (show Below w.heap.size w _ from by repeat (first|exact HB.out|apply below_alloc)) hb)
 have HO_2:=ak_ (Kd.R_lower ho0 (show w.heap.size<=_ from by simp only [alloc_size];omega))
 clear HB ho0 hb
 have HB:=n1_
 clear n1_
 obtain ⟨Ao2,co2,eo2⟩:=Kd.R_slice HO_2.out
 subst eo2
 go_wp2_with (fail)
 refine (impl_sortedBy.callsB 86 ?eg #[.pointer (some ⟨w.heap.size,0,none⟩),.pointer (some ⟨w.heap.size + 1,0,none⟩)] (ruledLt l0 a2) (fun x=>(0<=x/\x<(l0.length:Int))/\x ∈ r1) Ao2 co2 r1 w2 (Kd.R_reads' HO_2.out).2.2 (Kd.R_reads' HO_2.out).2.1 (fun x hx=>⟨H3.out.2.1 x hx,hx⟩) H3.out.1 ?cmp).mono ?_
 case eg=>intro args w;go_simp
 case cmp=>
  intro W hW a b ha hb
  obtain ⟨d,hd⟩:=Option.isSome_iff_exists.1 (H3.out.2.2 a ha.2 b hb.2)
  exact impl_ruledOrder1.cmp w.heap.size (w.heap.size + 1) A0 c0 l0 a2 W (boxed_below HJ.out hW) (boxed_below HO.out hW) (Kd.C_below HR0.out (below_step HB.out hW)) a b ha.1 hb.1 d hd
 rintro e w4 ⟨v4,rfl,ho0,hb⟩
 dsimp only
 have n1_:=ak_ (below_step HB.out hb)
 have HO_4:=ak_ (Kd.R_lower ho0 (below_size HB.out))
 clear HB HO_2 HJ HO ho0 hb
 have HB:=n1_
 clear n1_
 go_wp2
 go_ret
 exact ⟨_,rfl,zR HO_4.out,zb⟩
