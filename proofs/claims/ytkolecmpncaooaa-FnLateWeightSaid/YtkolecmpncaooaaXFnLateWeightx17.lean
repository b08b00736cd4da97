-- Written by a program of this session (the kit's print, widened). Proved here: what each function answers, for the arguments that its contract names.
import Derived.Test.YtkolecmpncaooaaXFnLateWeightx0
import Derived.Test.YtkolecmpncaooaaXFnLateWeightx5
import Derived.Test.YtkolecmpncaooaaXFnLateWeightx15
import Derived.Test.YtkolecmpncaooaaXFnLateWeightx16
namespace Go.Proofs.Ytkolecmpncaooaa.XFnLateWeight
open Go.RowKit Go.Proofs.YtkolecmpncaooaaW.PrintWords Go.Proofs.YtkolecmpncaooaaW.PrintLast Go.Proofs.YtkolecmpncaooaaW.PrintMore
attribute [local go_sem] max2_int min2_int max_two min_two max_three min_three max_four min_four   -- for this text's walks alone
attribute [local go_sem] idxA_51_0 idxA_51_1 fldS_45_0 fldS_45_1 fldS_45_2 fldS_96_0 fldS_96_1 fldS_96_2
set_option linter.unusedVariables false
set_option linter.unusedSimpArgs false

/-! ### impl_best: function 69, by hand -/
/-! ### impl_best, by hand -/
theorem impl_best1.copied (w3:World) (bd bl bo:Nat) (A:Option Addr) (c:Nat) (l:List Int) (least:Int) (cnt:Int) (vo:Value) (p1:Int) (W w3':World) (hd:Below w3.heap.size w3 w3') (hc:l.length≤c) (hne:bl≠bd∧bl≠bo∧bd≠bo) (hr:Kd.C (Kd.int .i64) W A l.length l)
  (xd:Boxed W bd 3 (.int .i64 cnt)) (xl:Boxed W bl 3 (.int .i64 least)) (xo:Boxed W bo 49 vo) (hB:Below W.heap.size W w3) (hcp:impl_copyInts.f l=some l) :
  Calls Try.prog 85 #[.slice A l.length c] w3' fun e w4=>∃ A3 c3,e=.returned (.slice A3 l.length c3)∧Aside0 (Kd.R (Kd.int .i64) 3 w4 W.heap.size (fun _=>True) (.slice A3 l.length c3) l)∧Aside0 (Below W.heap.size W w4)∧w4.cell? ⟨bo,0,none⟩=some vo∧w4.frozen? ⟨bo,0,none⟩=false∧(w4.setCell ⟨bo,0,none⟩ (.slice A3 l.length c3)).cell? ⟨bl,0,none⟩=some (.int .i64 least)∧(w4.setCell ⟨bo,0,none⟩ (.slice A3 l.length c3)).frozen? ⟨bl,0,none⟩=false∧((w4.setCell ⟨bo,0,none⟩ (.slice A3 l.length c3)).setCell ⟨bl,0,none⟩ (.int .i64 p1)).cell? ⟨bd,0,none⟩=some (.int .i64 cnt)∧((w4.setCell ⟨bo,0,none⟩ (.slice A3 l.length c3)).setCell ⟨bl,0,none⟩ (.int .i64 p1)).frozen? ⟨bd,0,none⟩=false:=by
 have hBd:=below_step hB hd
 refine (impl_copyInts.calls _ _ l l _ (Kd.C_below hr hBd) hc hcp).mono ?_
 rintro e w4 ⟨v3,rfl,ho3,hb4⟩
 obtain ⟨A3,c3,e3⟩:=Kd.R_slice ho3
 subst e3
 have hB4:=below_step hB (below_step hd hb4)
 have zl:=boxed_below xl hB4
 have zd:=boxed_below xd hB4
 have zo:=boxed_below xo hB4
 exact ⟨A3,c3,rfl,⟨Kd.R_lower ho3 (below_size hBd)⟩,⟨hB4⟩,zo.cell,zo.frozen,(boxed_set zl hne.2.1).cell,(boxed_set zl hne.2.1).frozen,(boxed_set (boxed_set zd hne.2.2) (Ne.symm hne.1)).cell,(boxed_set (boxed_set zd hne.2.2) (Ne.symm hne.1)).frozen⟩
set_option maxHeartbeats 8000000 in
set_option maxRecDepth 100000 in
theorem impl_best1.calls (k:Nat) (bj bm bd bl bo:Nat) (A0:Option Addr) (c0:Nat) (l0:List S31) (a2:Int) (A:Option Addr) (c:Nat) (l:List Int) (least cnt:Int) (vo:Value) (p1:Int) (W:World) (hc0:l0.length≤c0) (hc:l.length≤c) (hne:bl≠bd∧bl≠bo∧bd≠bo)
  (hr0:Kd.C k31 W A0 l0.length l0) (hr:Kd.C (Kd.int .i64) W A l.length l)
  (xj:Boxed W bj 24 (.slice A0 l0.length c0)) (xm:Boxed W bm 3 (.int .i64 a2)) (xd:Boxed W bd 3 (.int .i64 cnt)) (xl:Boxed W bl 3 (.int .i64 least)) (xo:Boxed W bo 49 vo)
  (h:impl_valueOf.f k l0 l a2=some p1) (hcp:impl_copyInts.f l=some l) :
  Calls Try.prog 101 #[.slice A l.length c,.pointer (some ⟨bj,0,none⟩),.pointer (some ⟨bm,0,none⟩),.pointer (some ⟨bd,0,none⟩),.pointer (some ⟨bl,0,none⟩),.pointer (some ⟨bo,0,none⟩)] W fun e W'=>e=.returned (.tuple #[])∧∃ W1,Below W.heap.size W W1∧(¬ (cnt=0∨p1<least)→p1=least→W'=W1.setCell ⟨bd,0,none⟩ (.int .i64 (wrap64 (cnt + 1))))∧(¬ (cnt=0∨p1<least)→¬ p1=least→W'=W1)∧((cnt=0∨p1<least)→∃ v,Kd.R (Kd.int .i64) 3 W1 W.heap.size (fun _=>True) v l∧W'=((W1.setCell ⟨bo,0,none⟩ v).setCell ⟨bl,0,none⟩ (.int .i64 p1)).setCell ⟨bd,0,none⟩ (.int .i64 1)):=by
 have HR0:=Aside0.mk hr0
 have HR:=Aside0.mk hr
 have H:=Aside0.mk h
 have HCP:=Aside0.mk hcp
 have HN:=Aside0.mk hne
 have XJ:=xj.cell
 have XM:=xm.cell
 have BD:=Aside0.mk xd
 have BL:=Aside0.mk xl
 have BO:=Aside0.mk xo
 clear hr0 hr h hcp xj xm xd xl xo hne
 go_enter Try.func101,Try.ntmps101
 go_wp2_with (fail)
 refine (impl_valueOf.calls k _ _ l0 _ _ l a2 p1 _ HR0.out hc0 HR.out hc H.out).mono ?_
 rintro e w5 ⟨rfl,hb⟩
 dsimp only
 clear XJ XM H
 have HB5:=Aside0.mk hb
 have CD:=(boxed_below BD.out hb).cell
 have CL:=(boxed_below BL.out hb).cell
 have FD:=(boxed_below BD.out hb).frozen
 clear hb
 by_cases hu:cnt=0∨p1<least
 rotate_left
 ·have q1:(cnt == 0)=false:=by simpa using fun z=>hu (.inl z)
  have q2:decide (p1<least)=false:=decide_eq_false (fun z=>hu (.inr z))
  have HU:=Aside0.mk hu
  clear hu
  by_cases he:p1=least
  ·have q3:(p1 == least)=true:=by simpa using he
   have HE:=Aside0.mk he
   clear he
   go_wp2
   refine bodyPost_end (results_none rfl _ _ _) rfl ?_
   exact ⟨rfl,w5,HB5.out,fun _ _=>rfl,fun _ hn=>absurd HE.out hn,fun hn=>absurd hn HU.out⟩
  have q3:(p1 == least)=false:=by simpa using he
  have HE:=Aside0.mk he
  clear he
  go_wp2
  refine bodyPost_end (results_none rfl _ _ _) rfl ?_
  exact ⟨rfl,w5,HB5.out,fun _ hn=>absurd hn HE.out,fun _ _=>rfl,fun hn=>absurd hn HU.out⟩
 have hs1:(cnt == 0)=true∨(cnt == 0)=false∧decide (p1<least)=true:=by
  by_cases z:cnt=0
  ·exact .inl (by rw [z];rfl)
  ·exact .inr ⟨by simpa using z,decide_eq_true (hu.resolve_left z)⟩
 have HU:=Aside0.mk hu
 clear hu
 rcases hs1 with q1 | ⟨q1,q2⟩
 all_goals
  go_wp2_with (fail)
  refine (impl_best1.copied w5 bd bl bo A c l least _ vo p1 W _ ?hd hc HN.out HR.out BD.out BL.out BO.out HB5.out HCP.out).mono ?_
  case hd=>repeat (first|exact Below.refl _ _|apply below_drew1|apply pw_below_drewN)
  rintro e w4 ⟨A3,c3,rfl,HO3,HB4,n1_,n2_,n3_,n4_,n5_,n6_⟩
  dsimp only
  go_wp2
  refine bodyPost_end (results_none rfl _ _ _) rfl ?_
  exact ⟨rfl,w4,HB4.out,fun hn=>absurd HU.out hn,fun hn=>absurd HU.out hn,fun _=>⟨_,HO3.out,rfl⟩⟩
def impl_best.step (l0:List S31) (a2:Int) (k:Nat) (l:List Int) (s:List Int × Int × Int):Option (List Int × Int × Int):=if impl_copyInts.f l=some l then (impl_valueOf.f k l0 l a2).bind fun p=>some (if s.2.2=0∨p<s.2.1 then (l,p,1) else if p=s.2.1 then (s.1,s.2.1,wrap64 (s.2.2 + 1)) else s) else none
def impl_best.f (k:Nat) (l0:List S31) (a2:Int):Option (List Int × Int × Int):=impl_eachOrder.f (impl_best.step l0 a2) k (l0.length:Int) ([],0,0)
theorem impl_best.mono:∀ a0 a1 k,LeO (impl_best.f k a0 a1) (impl_best.f (k + 1) a0 a1):=by
 intro a0 a1 k r h
 unfold impl_best.f at h ⊢
 exact impl_eachOrder.mono _ (fun k l s r h=>by
  unfold impl_best.step at h ⊢
  split at h
  ·rename_i c2
   rw [if_pos c2]
   obtain ⟨p,h5,h⟩:=Option.bind_eq_some_iff.1 h
   rw [impl_valueOf.mono _ _ _ _ _ h5,Option.bind_some]
   exact h
  ·cases h) _ _ _ _ h
def impl_best.inv (w:World) (l0:List S31) (A0:Option Addr) (c0:Nat) (a2:Int) (bj bm bd bl bo:Nat) (hi:Nat) (s:List Int × Int × Int) (W:World):Prop:=Below w.heap.size w W∧Boxed W bj 24 (.slice A0 l0.length c0)∧Boxed W bm 3 (.int .i64 a2)∧Boxed W bd 3 (.int .i64 s.2.2)∧Boxed W bl 3 (.int .i64 s.2.1)∧∃ v,Boxed W bo 49 v∧Kd.R (Kd.int .i64) 3 W hi (fun k_=>hi≤k_) v s.1
theorem impl_best.inv_move {w:World} {l0:List S31} {A0:Option Addr} {c0:Nat} {a2:Int} {bj bm bd bl bo hi:Nat} {s:List Int × Int × Int} {W W':World} {B:Nat} (h:impl_best.inv w l0 A0 c0 a2 bj bm bd bl bo hi s W) (hB:Below B W W') (hw:w.heap.size≤B) (hj:bj<B∧bm<B∧bd<B∧bl<B∧bo<B) (hk:Kept W W' (fun k_=>B≤k_∧k_<hi)):impl_best.inv w l0 A0 c0 a2 bj bm bd bl bo hi s W':=by
 obtain ⟨h1,h2,h3,h6,h7,v,h8,h9⟩:=h
 exact ⟨h1.trans (hB.mono hw),(hB.block _ hj.1).trans h2,(hB.block _ hj.2.1).trans h3,(hB.block _ hj.2.2.1).trans h6,(hB.block _ hj.2.2.2.1).trans h7,v,(hB.block _ hj.2.2.2.2).trans h8,Kd.R_kept h9 hk (fun k_ a b=>by omega)⟩
theorem impl_best.tell {w:World} {l0:List S31} {A0:Option Addr} {c0:Nat} {a2:Int} {bj bm bd bl bo hi:Nat} {s s':List Int × Int × Int} {W:World} {B k:Nat} {A:Option Addr} {c:Nat} {l:List Int} (h:impl_best.inv w l0 A0 c0 a2 bj bm bd bl bo hi s W) (hr0:Kd.C k31 w A0 l0.length l0) (hc0:l0.length≤c0) (hd:bl≠bd∧bl≠bo∧bd≠bo) (hd2:∀ b ∈ [bj,bm],b≠bd∧b≠bl∧b≠bo) (hl:bl<B∧bd<B∧bo<B∧w.heap.size≤bl∧w.heap.size≤bd∧w.heap.size≤bo) (hB:B≤hi) (hW:hi≤W.heap.size)
  (hr:Kd.C (Kd.int .i64) W A l.length l) (hc:l.length≤c) (hs:impl_best.step l0 a2 k l s=some s') :
  Calls Try.prog 101 #[.slice A l.length c,.pointer (some ⟨bj,0,none⟩),.pointer (some ⟨bm,0,none⟩),.pointer (some ⟨bd,0,none⟩),.pointer (some ⟨bl,0,none⟩),.pointer (some ⟨bo,0,none⟩)] W fun e W'=>e=.returned (.tuple #[])∧impl_best.inv w l0 A0 c0 a2 bj bm bd bl bo hi s' W'∧Kept W W' (fun k_=>k_<B):=by
 unfold impl_best.step at hs
 split at hs
 case isFalse=>cases hs
 case isTrue hcp=>
 obtain ⟨p,hp,hs⟩:=Option.bind_eq_some_iff.1 hs
 obtain rfl:=Option.some.inj hs
 obtain ⟨i0,ij,im,id_,il,v0,io,ir⟩:=h
 refine (impl_best1.calls k bj bm bd bl bo A0 c0 l0 a2 A c l s.2.1 s.2.2 v0 p W hc0 hc hd (Kd.C_below hr0 i0) hr ij im id_ il io hp hcp).mono ?_
 rintro e W' ⟨rfl,W1,hb,hup,hno,hyes⟩
 have z:=fun {b:Nat} {t:TypeId} {v:Value} (h:Boxed W b t v)=>boxed_below h hb
 have k1:Below w.heap.size w W1:=below_step i0 hb
 have dj:=hd2 bj (by simp)
 have dm:=hd2 bm (by simp)
 by_cases q:s.2.2=0∨p<s.2.1
 ·rw [if_pos q]
  obtain ⟨v,hv,rfl⟩:=hyes q
  have y:=fun {b:Nat} {t:TypeId} {u:Value} (h:Boxed W b t u) (d:b≠bd∧b≠bl∧b≠bo)=>boxed_set (u:=.int .i64 1) (boxed_set (u:=.int .i64 p) (boxed_set (u:=v) (z h) d.2.2) d.2.1) d.1
  refine ⟨rfl,⟨below_set (below_set (below_set k1 hl.2.2.2.2.2) hl.2.2.2.1) hl.2.2.2.2.1,y ij dj,y im dm,Boxed.set _ (boxed_set (boxed_set (z id_) hd.2.2) (Ne.symm hd.1)),boxed_set (Boxed.set _ (boxed_set (z il) hd.2.1)) hd.1,v,boxed_set (boxed_set (Boxed.set _ (z io)) (Ne.symm hd.2.1)) (Ne.symm hd.2.2),?_⟩,Kept.setCell (Kept.setCell (Kept.setCell (Kept.of_below hb _) (.inl hl.2.2.1) _) (.inl hl.1) _) (.inl hl.2.1) _⟩
  have h1:=Kd.R_bound hv
  exact Kd.R_far (Kd.R_far (Kd.R_far (Kd.R_lower (Kd.R_mono h1 (fun k_ hk_=>show hi≤k_ by have:=hk_.2.1;omega)) hW) (fun k_ hk_ e_=>by have e2:k_=bo:=e_;omega) _) (fun k_ hk_ e_=>by have e2:k_=bl:=e_;omega) _) (fun k_ hk_ e_=>by have e2:k_=bd:=e_;omega) _
 ·rw [if_neg q]
  by_cases r:p=s.2.1
  ·rw [if_pos r,hup q r]
   refine ⟨rfl,⟨below_set k1 hl.2.2.2.2.1,boxed_set (z ij) dj.1,boxed_set (z im) dm.1,Boxed.set _ (z id_),boxed_set (z il) hd.1,v0,boxed_set (z io) (Ne.symm hd.2.2),Kd.R_far (Kd.R_below ir hb) (fun k_ hk_ e_=>by have e2:k_=bd:=e_;omega) _⟩,Kept.setCell (Kept.of_below hb _) (.inl hl.2.1) _⟩
  ·rw [if_neg r,hno q r]
   exact ⟨rfl,⟨k1,z ij,z im,z id_,z il,v0,z io,Kd.R_below ir hb⟩,Kept.of_below hb _⟩
set_option maxHeartbeats 8000000 in
set_option maxRecDepth 100000 in
theorem impl_best.calls (k:Nat) (A0:Option Addr) (c0:Nat) (l0:List S31) (a2:Int) (r1:List Int) (r2 r3:Int) (w:World) (hr0:Kd.C k31 w A0 l0.length l0) (hc0:l0.length≤c0) (h:impl_best.f k l0 a2=some (r1,r2,r3)) :
  Calls Try.prog 69 #[.slice A0 l0.length c0,.int .i64 a2] w fun e w'=>∃ v0_:Value,e=.returned (.tuple #[v0_,.int .i64 r2,.int .i64 r3])∧Kd.R (Kd.int .i64) 3 w' w.heap.size (fun _=>True) v0_ r1∧Below w.heap.size w w':=by
 unfold impl_best.f at h
 have HR0:=Aside0.mk hr0
 have HC0:=Aside0.mk hc0
 have H4:=Aside0.mk h
 have HB:=Aside0.mk (Below.refl w.heap.size w)
 clear hr0 hc0 h
 obtain ⟨W0,hW0⟩:∃ W0,W0=((((w.alloc (.cells #[.slice A0 l0.length c0] 24)).alloc (.cells #[.int .i64 a2] 3)).alloc (.cells #[.slice none 0 0] 49)).alloc (.cells #[.int .i64 0] 3)).alloc (.cells #[.int .i64 0] 3):=⟨_,rfl⟩
 have Yj:Boxed W0 (w.heap.size) 24 (.slice A0 l0.length c0):=by rw [hW0];exact ((((boxed_alloc rfl).alloc _).alloc _).alloc _).alloc _
 have Ym:Boxed W0 (w.heap.size + 1) 3 (.int .i64 a2):=by rw [hW0];exact (((boxed_alloc (by simp only [alloc_size])).alloc _).alloc _).alloc _
 have U1:Boxed W0 (w.heap.size + 1 + 1) 49 (.slice none 0 0):=by rw [hW0];exact ((boxed_alloc (by simp only [alloc_size])).alloc _).alloc _
 have U2:Boxed W0 (w.heap.size + 1 + 1 + 1) 3 (.int .i64 0):=by rw [hW0];exact (boxed_alloc (by simp only [alloc_size])).alloc _
 have U3:Boxed W0 (w.heap.size + 1 + 1 + 1 + 1) 3 (.int .i64 0):=by rw [hW0];exact boxed_alloc (by simp only [alloc_size])
 have hb9:Below w.heap.size w W0:=by rw [hW0];exact below_alloc (below_alloc (below_alloc (below_alloc (below_alloc HB.out _) _) _) _) _
 have HLT:Aside0 (W0.heap.size=w.heap.size + 1 + 1 + 1 + 1 + 1):=⟨by rw [hW0];simp only [alloc_size]⟩
 have cj:=Yj.cell
 have Z:=Aside0.mk (show Below w.heap.size w W0∧Boxed W0 (w.heap.size) 24 (.slice A0 l0.length c0)∧Boxed W0 (w.heap.size + 1) 3 (.int .i64 a2)∧Boxed W0 (w.heap.size + 1 + 1 + 1 + 1) 3 (.int .i64 0)∧Boxed W0 (w.heap.size + 1 + 1 + 1) 3 (.int .i64 0)∧Boxed W0 (w.heap.size + 1 + 1) 49 (.slice none 0 0) from ⟨hb9,Yj,Ym,U3,U2,U1⟩)
 have HW0:=Aside0.mk hW0
 rw [hW0] at cj
 clear U1 U2 U3 Yj Ym hb9 hW0
 go_enter Try.func69,Try.ntmps69
 go_wp2_with (fail)
 rw [←HW0.out]
 refine (impl_eachOrder.calls (impl_best.step l0 a2) 101 ?eg #[.pointer (some ⟨w.heap.size,0,none⟩),.pointer (some ⟨w.heap.size + 1,0,none⟩),.pointer (some ⟨w.heap.size + 1 + 1 + 1 + 1,0,none⟩),.pointer (some ⟨w.heap.size + 1 + 1 + 1,0,none⟩),.pointer (some ⟨w.heap.size + 1 + 1,0,none⟩)] W0 (fun hi_ s_ W_=>impl_best.inv w l0 A0 c0 a2 (w.heap.size) (w.heap.size + 1) (w.heap.size + 1 + 1 + 1 + 1) (w.heap.size + 1 + 1 + 1) (w.heap.size + 1 + 1) hi_ s_ W_) k _ ([],0,0) (r1,r2,r3) ?init ?move ?step H4.out).mono ?_
 case eg=>intro args w;go_simp
 case init=>
  intro W_ hW_
  have hl:=HLT.out
  obtain ⟨z1,z2,z3,z6,z7,z8⟩:=Z.out
  exact ⟨z1.trans (hW_.mono (by omega)),(hW_.block _ (by omega)).trans z2,(hW_.block _ (by omega)).trans z3,(hW_.block _ (by omega)).trans z6,(hW_.block _ (by omega)).trans z7,_,(hW_.block _ (by omega)).trans z8,Kd.R_nil _ _ _ _ _⟩
 case move=>intro hi_ s_ W_ W2_ hle_ hi2_ hb_ hk_;exact impl_best.inv_move hi2_ hb_ (by have:=HLT.out;omega) (by have:=HLT.out;omega) hk_
 case step=>intro hi_ k_ s_ s2_ W_ A_ c_ l_ hle_ hW_ hi2_ hC_ hc_ hs_;exact impl_best.tell hi2_ HR0.out HC0.out (by have:=HLT.out;omega) (by have:=HLT.out;simp only [List.mem_cons,List.not_mem_nil,or_false];omega) (by have:=HLT.out;omega) hle_ hW_ hC_ hc_ hs_
 rintro e w9 ⟨rfl,hi_,hle_,_,hz⟩
 dsimp only
 obtain ⟨z1,z2,z3,z6,z7,v9,z8,z9⟩:=hz
 obtain ⟨A9,c9,e9⟩:=Kd.R_slice z9
 subst e9
 have cc:=z6.cell
 have cd:=z7.cell
 have cf:=z8.cell
 have HB9:=Aside0.mk z1
 have HO9:=Aside0.mk (Kd.R_lower (Kd.R_mono z9 (fun _ _=>trivial) (ok':=fun _=>True)) (show w.heap.size≤hi_ by have:=HLT.out;omega))
 clear z1 z2 z3 z6 z7 z8 z9 Z HLT cj hle_ HW0
 go_wp2
 go_region
 all_goals
  go_wp2
  go_ret3
  exact ⟨_,rfl,zR HO9.out,by repeat (first|exact HB9.out|apply below_alloc|apply pw_below_drewN|apply below_drew1)⟩

end Go.Proofs.Ytkolecmpncaooaa.XFnLateWeight
-- minified
