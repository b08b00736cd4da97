-- Written by a program of this session (the kit's print, widened). Proved here: what each function answers, for the arguments that its contract names.
import Derived.Test.YtbblhmpcpmamfaaXFnExactFrontOrderx0
import Derived.Test.YtbblhmpcpmamfaaXFnExactFrontOrderx1
import Derived.Test.YtbblhmpcpmamfaaXFnExactFrontOrderx9
import Derived.Test.YtbblhmpcpmamfaaXFnExactFrontOrderx11
import Derived.Test.YtbblhmpcpmamfaaXFnExactFrontOrderx12
import Derived.Test.YtbblhmpcpmamfaaXFnExactFrontOrderx13
import Derived.Test.YtbblhmpcpmamfaaXFnExactFrontOrderx14
import Derived.Test.YtbblhmpcpmamfaaXFnExactFrontOrderx15
namespace Go.Proofs.Ytbblhmpcpmamfaa.XFnExactFrontOrder
open Go.RowKit Go.Proofs.YtbblhmpcpmamfaaW.PrintWords Go.Proofs.YtbblhmpcpmamfaaW.PrintLast Go.Proofs.YtbblhmpcpmamfaaW.PrintMore
attribute [local go_sem] max2_int min2_int max_two min_two max_three min_three max_four min_four   -- for this text's walks alone
attribute [local go_sem] idxA_77_0 idxA_77_1 fldS_68_0 fldS_68_1 fldS_73_0 fldS_73_1 fldS_73_2
set_option linter.unusedVariables false
set_option linter.unusedSimpArgs false

/-! ### impl_FrontOrder: function 40, by hand -/
/-! ### impl_FrontOrder, by hand -/
theorem impl_FrontOrder1.copied (w3:World) (bd bo:Nat) (A:Option Addr) (c:Nat) (l:List Int) (vo:Value) (W w3':World) (hd:Below w3.heap.size w3 w3') (hc:l.length≤c) (hne:bd≠bo) (hr:Kd.C (Kd.int .i64) W A l.length l)
  (xd:Boxed W bd 4 (.bool false)) (xo:Boxed W bo 41 vo) (hB:Below W.heap.size W w3) (hcp:impl_copyInts.f l=some l) :
  Calls Try.prog 64 #[.slice A l.length c] w3' fun e w4=>∃ A3 c3,e=.returned (.slice A3 l.length c3)∧Aside0 (Kd.R (Kd.int .i64) 3 w4 W.heap.size (fun _=>True) (.slice A3 l.length c3) l)∧Aside0 (Below W.heap.size W w4)∧w4.cell? ⟨bo,0,none⟩=some vo∧w4.frozen? ⟨bo,0,none⟩=false∧(w4.setCell ⟨bo,0,none⟩ (.slice A3 l.length c3)).cell? ⟨bd,0,none⟩=some (.bool false)∧(w4.setCell ⟨bo,0,none⟩ (.slice A3 l.length c3)).frozen? ⟨bd,0,none⟩=false:=by
 have hBd:=below_step hB hd
 refine (impl_copyInts.calls _ _ l l _ (Kd.C_below hr hBd) hc hcp).mono ?_
 rintro e w4 ⟨v3,rfl,ho3,hb4⟩
 obtain ⟨A3,c3,e3⟩:=Kd.R_slice ho3
 subst e3
 have hB4:=below_step hB (below_step hd hb4)
 have zd:=boxed_below xd hB4
 have zo:=boxed_below xo hB4
 exact ⟨A3,c3,rfl,⟨Kd.R_lower ho3 (below_size hBd)⟩,⟨hB4⟩,zo.cell,zo.frozen,(boxed_set zd hne).cell,(boxed_set zd hne).frozen⟩
theorem impl_FrontOrder1.point (k:Nat) (bd bj bf bg bw bk:Nat) (A0:Option Addr) (c0:Nat) (l0:List S62) (a1 a2:Int) (A:Option Addr) (c:Nat) (l:List Int) (vw:Value) (kk:Int) (ad:Addr) (fr:List S77) (p1 p2:Int) (W w3':World) (hd:Below W.heap.size W w3') (hc0:l0.length≤c0) (hc:l.length≤c) (hk:0≤kk∧kk<(fr.length:Int))
  (hr0:Kd.C k62 W A0 l0.length l0) (hr:Kd.C (Kd.int .i64) W A l.length l) (hf:Kd.C k77 W (some ad) fr.length fr) (xd:Boxed W bd 4 (.bool false)) (xj:Boxed W bj 34 (.slice A0 l0.length c0)) (xf:Boxed W bf 3 (.int .i64 a1)) (xg:Boxed W bg 3 (.int .i64 a2)) (xw:Boxed W bw 47 vw) (xk:Boxed W bk 3 (.int .i64 kk)) (h:impl_pointOf.f k l0 l a1 a2=some (p1,p2)) :
  Calls Try.prog 63 #[.slice A0 l0.length c0,.slice A l.length c,.int .i64 a1,.int .i64 a2] w3' fun e w4=>e=.returned (.agg #[.int .i64 p1,.int .i64 p2])∧Aside0 (Below W.heap.size W w4)∧w4.cell? ⟨bd,0,none⟩=some (.bool false)∧w4.cell? ⟨bj,0,none⟩=some (.slice A0 l0.length c0)∧w4.cell? ⟨bf,0,none⟩=some (.int .i64 a1)∧w4.cell? ⟨bg,0,none⟩=some (.int .i64 a2)∧w4.cell? ⟨bw,0,none⟩=some vw∧w4.cell? ⟨bk,0,none⟩=some (.int .i64 kk)∧w4.cell? (ad.add (kk.toNat * 2))=some (.int .i64 (rd_T77 fr kk).f0)∧w4.cell? ⟨(ad.add (kk.toNat * 2)).block,(ad.add (kk.toNat * 2)).off + 1,none⟩=some (.int .i64 (rd_T77 fr kk).f1):=by
 refine (impl_pointOf.calls k _ _ l0 _ _ l a1 a2 p1 p2 _ (Kd.C_below hr0 hd) hc0 (Kd.C_below hr hd) hc h).mono ?_
 rintro e w4 ⟨rfl,hb4⟩
 have hB4:=below_step hd hb4
 obtain ⟨ad2,e2,h0,h1⟩:=at_T77 (Kd.C_below hf hB4) kk hk.1 hk.2
 injection e2 with e2
 subst e2
 exact ⟨rfl,⟨hB4⟩,(boxed_below xd hB4).cell,(boxed_below xj hB4).cell,(boxed_below xf hB4).cell,(boxed_below xg hB4).cell,(boxed_below xw hB4).cell,(boxed_below xk hB4).cell,h0,h1⟩
attribute [local go_sem] eqA77
set_option maxHeartbeats 8000000 in
set_option maxRecDepth 100000 in
theorem impl_FrontOrder1.calls (k:Nat) (bd bj bf bg bw bk bo:Nat) (A0:Option Addr) (c0:Nat) (l0:List S62) (a1 a2:Int) (A:Option Addr) (c:Nat) (l:List Int) (Aw:Option Addr) (cw:Nat) (fr:List S77) (kk:Int) (found:Bool) (vo:Value) (p1 p2:Int) (W:World) (hc0:l0.length≤c0) (hc:l.length≤c) (hne:bd≠bo) (hk:0≤kk∧kk<(fr.length:Int))
  (hr0:Kd.C k62 W A0 l0.length l0) (hr:Kd.C (Kd.int .i64) W A l.length l) (hf:Kd.C k77 W Aw fr.length fr)
  (xd:Boxed W bd 4 (.bool found)) (xj:Boxed W bj 34 (.slice A0 l0.length c0)) (xf:Boxed W bf 3 (.int .i64 a1)) (xg:Boxed W bg 3 (.int .i64 a2)) (xw:Boxed W bw 47 (.slice Aw fr.length cw)) (xk:Boxed W bk 3 (.int .i64 kk)) (xo:Boxed W bo 41 vo)
  (h:impl_pointOf.f k l0 l a1 a2=some (p1,p2)) (hcp:impl_copyInts.f l=some l) :
  Calls Try.prog 80 #[.slice A l.length c,.pointer (some ⟨bd,0,none⟩),.pointer (some ⟨bj,0,none⟩),.pointer (some ⟨bf,0,none⟩),.pointer (some ⟨bg,0,none⟩),.pointer (some ⟨bw,0,none⟩),.pointer (some ⟨bk,0,none⟩),.pointer (some ⟨bo,0,none⟩)] W fun e W'=>e=.returned (.tuple #[])∧∃ W1,Below W.heap.size W W1∧(¬ (found=false∧p1=(rd_T77 fr kk).f0∧p2=(rd_T77 fr kk).f1)→W'=W1)∧((found=false∧p1=(rd_T77 fr kk).f0∧p2=(rd_T77 fr kk).f1)→∃ v,Kd.R (Kd.int .i64) 3 W1 W.heap.size (fun _=>True) v l∧W'=(W1.setCell ⟨bo,0,none⟩ v).setCell ⟨bd,0,none⟩ (.bool true)):=by
 obtain ⟨ad,e1,y0,y1⟩:=at_T77 hf kk hk.1 hk.2
 subst e1
 obtain ⟨C,hC⟩:∃ C:Prop,C=(found=false∧p1=(rd_T77 fr kk).f0∧p2=(rd_T77 fr kk).f1):=⟨_,rfl⟩
 rw [←hC]
 have HC:=Aside0.mk hC
 clear hC
 have HR0:=Aside0.mk hr0
 have HR:=Aside0.mk hr
 have HFR:=Aside0.mk hf
 have H:=Aside0.mk h
 have HCP:=Aside0.mk hcp
 have HN:=Aside0.mk hne
 have HK:=Aside0.mk hk
 have BD:=Aside0.mk xd
 have BJ:=Aside0.mk xj
 have BF:=Aside0.mk xf
 have BG:=Aside0.mk xg
 have BW:=Aside0.mk xw
 have BK:=Aside0.mk xk
 have BO:=Aside0.mk xo
 have XD:=xd.cell
 have XJ:=xj.cell
 have XF:=xf.cell
 have XG:=xg.cell
 have XW:=xw.cell
 have XK:=xk.cell
 have r0:=eq_true hk.1
 have r1:=eq_true hk.2
 clear hr0 hr hf h hcp hne hk xd xj xf xg xw xk xo
 cases found with
 | true=>
  have HNC:Aside0 (¬ C):=⟨by rw [HC.out];intro h_;cases h_.1⟩
  clear HC
  go_enter Try.func80,Try.ntmps80
  go_wp2
  go_region
  all_goals
   go_wp2
   refine bodyPost_end (results_none rfl _ _ _) rfl ?_
   exact ⟨rfl,_,by repeat (first|exact Below.refl _ _|apply below_alloc|apply below_drew1|apply pw_below_drewN),fun _=>rfl,fun h_=>absurd h_ HNC.out⟩
 | false=>
  obtain ⟨q0,hq0⟩:∃ q_,q_=(rd_T77 fr kk).f0:=⟨_,rfl⟩
  obtain ⟨q1,hq1⟩:∃ q_,q_=(rd_T77 fr kk).f1:=⟨_,rfl⟩
  have HQ0:=Aside0.mk hq0
  have HQ1:=Aside0.mk hq1
  have HC2:Aside0 (C ↔ (p1=q0∧p2=q1)):=⟨by rw [HC.out,hq0,hq1];simp⟩
  clear HC
  rw [←hq0] at y0
  rw [←hq1] at y1
  clear hq0 hq1
  go_enter Try.func80,Try.ntmps80
  go_wp2_with (fail)
  go_region_held3 (fun w'=>w'.cell? ⟨bd,0,none⟩=some (.bool false)∧w'.cell? ⟨bj,0,none⟩=some (.slice A0 l0.length c0)∧w'.cell? ⟨bf,0,none⟩=some (.int .i64 a1)∧w'.cell? ⟨bg,0,none⟩=some (.int .i64 a2)∧w'.cell? ⟨bw,0,none⟩=some (.slice (some ad) fr.length cw)∧w'.cell? ⟨bk,0,none⟩=some (.int .i64 kk)∧w'.cell? (ad.add (kk.toNat * 2))=some (.int .i64 q0)∧w'.cell? ⟨(ad.add (kk.toNat * 2)).block,(ad.add (kk.toNat * 2)).off + 1,none⟩=some (.int .i64 q1)) (first|go_keep|exact ⟨n1_,n2_,n3_,n4_,n5_,n6_,n7_,n8_⟩) (first|(go_at_call 63;refine (impl_FrontOrder1.point k bd bj bf bg bw bk A0 c0 l0 a1 a2 A c l (.slice (some ad) fr.length cw) kk ad fr p1 p2 W _ ?hd hc0 hc HK.out HR0.out HR.out HFR.out BD.out BJ.out BF.out BG.out BW.out BK.out H.out).mono ?_;(case hd=>repeat (first|exact Below.refl _ _|apply below_drew1|apply pw_below_drewN));rintro e w4 ⟨rfl,HB4,n1_,n2_,n3_,n4_,n5_,n6_,n7_,n8_⟩;rw [←HQ0.out] at n7_;rw [←HQ1.out] at n8_))
  all_goals
   clear n1_ n2_ n3_ n4_ n5_ n6_ n7_ n8_ XD XJ XF XG XW XK y0 y1
   by_cases he:p1=q0∧p2=q1
   ·have HYC:Aside0 C:=⟨HC2.out.2 he⟩
    clear HC2 HQ0 HQ1
    obtain ⟨rfl,rfl⟩:=he
    have hb:(p1 == p1 && (p2 == p2))=true:=by simp
    go_wp2_with (fail)
    refine (impl_FrontOrder1.copied w4 bd bo A c l vo W _ ?hd hc HN.out HR.out BD.out BO.out HB4.out HCP.out).mono ?_
    case hd=>repeat (first|exact Below.refl _ _|apply below_drew1|apply pw_below_drewN)
    rintro e w5 ⟨A3,c3,rfl,HO3,HB5,n1_,n2_,n3_,n4_⟩
    dsimp only
    go_wp2
    refine bodyPost_end (results_none rfl _ _ _) rfl ?_
    exact ⟨rfl,w5,HB5.out,fun hn=>absurd HYC.out hn,fun _=>⟨_,HO3.out,rfl⟩⟩
    all_goals (exfalso;rename_i h_;simp at h_)
   ·have hbe:(p1 == q0 && (p2 == q1))=false:=by
     by_cases h1:p1=q0
     ·have h2:p2≠q1:=fun e=>he ⟨h1,e⟩
      simp [h2]
     ·simp [h1]
    have HNC:Aside0 (¬ C):=⟨fun h_=>he (HC2.out.1 h_)⟩
    have HE:=Aside0.mk he
    clear he HC2 HQ0 HQ1
    go_wp2_with (fail)
    all_goals first|(exfalso;exact HE.out (by simpa using ‹(p1 == q0)=true∧(p2 == q1)=true›))|skip
    refine bodyPost_end (results_none rfl _ _ _) rfl ?_
    exact ⟨rfl,_,by repeat (first|exact HB4.out|apply below_drew1|apply pw_below_drewN),fun _=>rfl,fun h_=>absurd h_ HNC.out⟩
def impl_FrontOrder.step (l0:List S62) (a1 a2:Int) (q:S77) (k:Nat) (l:List Int) (s:List Int × Bool):Option (List Int × Bool):=if impl_copyInts.f l=some l then (impl_pointOf.f k l0 l a1 a2).bind fun p=>some (if s.2=false∧p.1=q.f0∧p.2=q.f1 then (l,true) else s) else none
def impl_FrontOrder.f (k:Nat) (l0:List S62) (a1 a2 kk:Int):Option (List Int × Bool):=(impl_areTwo.f k l0 a1 a2).bind fun b=>if b=true then ((impl_frontOf.f k l0 a1 a2).bind fun (fr:List S77)=>(impl_isNumber.f kk (fr.length:Int)).bind fun b2=>if b2=true then (if 0≤kk∧kk<(fr.length:Int) then (impl_eachOrder.f (impl_FrontOrder.step l0 a1 a2 (rd_T77 fr kk)) k (l0.length:Int) ([],false)).bind fun s=>some (s.1,true) else none) else some ([],false)) else some ([],false)
theorem impl_FrontOrder.mono:∀ a0 a1 a2 a3 k,LeO (impl_FrontOrder.f k a0 a1 a2 a3) (impl_FrontOrder.f (k + 1) a0 a1 a2 a3):=by
 intro a0 a1 a2 a3 k r h
 unfold impl_FrontOrder.f at h ⊢
 obtain ⟨b,h1,h2⟩:=Option.bind_eq_some_iff.1 h
 rw [impl_areTwo.mono _ _ _ _ _ h1,Option.bind_some]
 split at h2
 ·rename_i c
  rw [if_pos c]
  obtain ⟨fr,h3,h4⟩:=Option.bind_eq_some_iff.1 h2
  rw [impl_frontOf.mono _ _ _ _ _ h3,Option.bind_some]
  obtain ⟨b2,h5,h6⟩:=Option.bind_eq_some_iff.1 h4
  rw [h5,Option.bind_some]
  split at h6
  ·rename_i c2
   rw [if_pos c2]
   split at h6
   ·rename_i c3
    rw [if_pos c3]
    obtain ⟨s,h7,h8⟩:=Option.bind_eq_some_iff.1 h6
    rw [impl_eachOrder.mono _ (fun k l s r h=>by
     unfold impl_FrontOrder.step at h ⊢
     split at h
     ·rename_i c2
      rw [if_pos c2]
      obtain ⟨p,h5,h⟩:=Option.bind_eq_some_iff.1 h
      rw [impl_pointOf.mono _ _ _ _ _ _ h5,Option.bind_some]
      exact h
     ·cases h) _ _ _ _ h7,Option.bind_some]
    exact h8
   ·cases h6
  ·rename_i c2
   rw [if_neg c2];exact h6
 ·rename_i c
  rw [if_neg c];exact h2
def impl_FrontOrder.inv (w:World) (l0:List S62) (A0:Option Addr) (c0:Nat) (a1 a2:Int) (Aw:Option Addr) (n cw:Nat) (kk:Int) (bd bj bf bg bw bk bo:Nat) (hi:Nat) (s:List Int × Bool) (W:World):Prop:=Below w.heap.size w W∧Boxed W bd 4 (.bool s.2)∧Boxed W bj 34 (.slice A0 l0.length c0)∧Boxed W bf 3 (.int .i64 a1)∧Boxed W bg 3 (.int .i64 a2)∧Boxed W bw 47 (.slice Aw n cw)∧Boxed W bk 3 (.int .i64 kk)∧∃ v,Boxed W bo 41 v∧Kd.R (Kd.int .i64) 3 W hi (fun k_=>hi≤k_) v s.1
theorem impl_FrontOrder.inv_move {w:World} {l0:List S62} {A0:Option Addr} {c0:Nat} {a1 a2:Int} {Aw:Option Addr} {n cw:Nat} {kk:Int} {bd bj bf bg bw bk bo hi:Nat} {s:List Int × Bool} {W W':World} {B:Nat} (h:impl_FrontOrder.inv w l0 A0 c0 a1 a2 Aw n cw kk bd bj bf bg bw bk bo hi s W) (hB:Below B W W') (hw:w.heap.size≤B) (hj:bd<B∧bj<B∧bf<B∧bg<B∧bw<B∧bk<B∧bo<B) (hk:Kept W W' (fun k_=>B≤k_∧k_<hi)):impl_FrontOrder.inv w l0 A0 c0 a1 a2 Aw n cw kk bd bj bf bg bw bk bo hi s W':=by
 obtain ⟨h1,h2,h3,h4,h5,h6,h7,v,h8,h9⟩:=h
 exact ⟨h1.trans (hB.mono hw),(hB.block _ hj.1).trans h2,(hB.block _ hj.2.1).trans h3,(hB.block _ hj.2.2.1).trans h4,(hB.block _ hj.2.2.2.1).trans h5,(hB.block _ hj.2.2.2.2.1).trans h6,(hB.block _ hj.2.2.2.2.2.1).trans h7,v,(hB.block _ hj.2.2.2.2.2.2).trans h8,Kd.R_kept h9 hk (fun k_ a b=>by omega)⟩
theorem impl_FrontOrder.tell {w:World} {l0:List S62} {A0:Option Addr} {c0:Nat} {a1 a2:Int} {Aw:Option Addr} {cw:Nat} {fr:List S77} {kk:Int} {bd bj bf bg bw bk bo hi:Nat} {s s':List Int × Bool} {W:World} {B k:Nat} {A:Option Addr} {c:Nat} {l:List Int} (h:impl_FrontOrder.inv w l0 A0 c0 a1 a2 Aw fr.length cw kk bd bj bf bg bw bk bo hi s W) (hr0:Kd.C k62 w A0 l0.length l0) (hc0:l0.length≤c0) (hf:Kd.C k77 w Aw fr.length fr) (hkk:0≤kk∧kk<(fr.length:Int)) (hd:bd≠bo) (hd2:∀ b ∈ [bj,bf,bg,bw,bk],b≠bd∧b≠bo) (hl:bd<B∧bo<B∧w.heap.size≤bd∧w.heap.size≤bo) (hB:B≤hi) (hW:hi≤W.heap.size)
  (hr:Kd.C (Kd.int .i64) W A l.length l) (hc:l.length≤c) (hs:impl_FrontOrder.step l0 a1 a2 (rd_T77 fr kk) k l s=some s') :
  Calls Try.prog 80 #[.slice A l.length c,.pointer (some ⟨bd,0,none⟩),.pointer (some ⟨bj,0,none⟩),.pointer (some ⟨bf,0,none⟩),.pointer (some ⟨bg,0,none⟩),.pointer (some ⟨bw,0,none⟩),.pointer (some ⟨bk,0,none⟩),.pointer (some ⟨bo,0,none⟩)] W fun e W'=>e=.returned (.tuple #[])∧impl_FrontOrder.inv w l0 A0 c0 a1 a2 Aw fr.length cw kk bd bj bf bg bw bk bo hi s' W'∧Kept W W' (fun k_=>k_<B):=by
 unfold impl_FrontOrder.step at hs
 split at hs
 case isFalse=>cases hs
 case isTrue hcp=>
 obtain ⟨p,hp,hs⟩:=Option.bind_eq_some_iff.1 hs
 obtain rfl:=Option.some.inj hs
 obtain ⟨i0,id_,ij,if_,ig,iw,ik,v0,io,ir⟩:=h
 refine (impl_FrontOrder1.calls k bd bj bf bg bw bk bo A0 c0 l0 a1 a2 A c l Aw cw fr kk s.2 v0 p.1 p.2 W hc0 hc hd hkk (Kd.C_below hr0 i0) hr (Kd.C_below hf i0) id_ ij if_ ig iw ik io hp hcp).mono ?_
 rintro e W' ⟨rfl,W1,hb,hno,hyes⟩
 have z:=fun {b:Nat} {t:TypeId} {v:Value} (h:Boxed W b t v)=>boxed_below h hb
 have k1:Below w.heap.size w W1:=below_step i0 hb
 have dj:=hd2 bj (by simp)
 have df:=hd2 bf (by simp)
 have dg:=hd2 bg (by simp)
 have dw:=hd2 bw (by simp)
 have dk:=hd2 bk (by simp)
 by_cases q:s.2=false∧p.1=(rd_T77 fr kk).f0∧p.2=(rd_T77 fr kk).f1
 ·rw [if_pos q]
  obtain ⟨v,hv,rfl⟩:=hyes q
  have y:=fun {b:Nat} {t:TypeId} {u:Value} (h:Boxed W b t u) (d:b≠bd∧b≠bo)=>boxed_set (u:=.bool true) (boxed_set (u:=v) (z h) d.2) d.1
  refine ⟨rfl,⟨below_set (below_set k1 hl.2.2.2) hl.2.2.1,Boxed.set _ (boxed_set (z id_) hd),y ij dj,y if_ df,y ig dg,y iw dw,y ik dk,v,boxed_set (Boxed.set _ (z io)) (Ne.symm hd),?_⟩,Kept.setCell (Kept.setCell (Kept.of_below hb _) (.inl hl.2.1) _) (.inl hl.1) _⟩
  have h1:=Kd.R_bound hv
  exact Kd.R_far (Kd.R_far (Kd.R_lower (Kd.R_mono h1 (fun k_ hk_=>show hi≤k_ by have:=hk_.2.1;omega)) hW) (fun k_ hk_ e_=>by have e2:k_=bo:=e_;omega) _) (fun k_ hk_ e_=>by have e2:k_=bd:=e_;omega) _
 ·rw [if_neg q,hno q]
  exact ⟨rfl,⟨k1,z id_,z ij,z if_,z ig,z iw,z ik,v0,z io,Kd.R_below ir hb⟩,Kept.of_below hb _⟩
set_option maxHeartbeats 8000000 in
set_option maxRecDepth 100000 in
theorem impl_FrontOrder.calls (k:Nat) (A0:Option Addr) (c0:Nat) (l0:List S62) (a1 a2 a3:Int) (r1:List Int) (r2:Bool) (w:World) (hr0:Kd.C k62 w A0 l0.length l0) (hc0:l0.length≤c0) (h:impl_FrontOrder.f k l0 a1 a2 a3=some (r1,r2)) :
  Calls Try.prog 40 #[.slice A0 l0.length c0,.int .i64 a1,.int .i64 a2,.int .i64 a3] w fun e w'=>∃ v0_:Value,e=.returned (.tuple #[v0_,.bool r2])∧Kd.R (Kd.int .i64) 3 w' w.heap.size (fun _=>True) v0_ r1∧Below w.heap.size w w':=by
 unfold impl_FrontOrder.f at h
 obtain ⟨t1,h1,h_⟩:=Option.bind_eq_some_iff.1 h
 clear h
 have HR0:=Aside0.mk hr0
 have HC0:=Aside0.mk hc0
 have H1:=Aside0.mk h1
 have H:=Aside0.mk h_
 have HB:=Aside0.mk (Below.refl w.heap.size w)
 clear hr0 hc0 h1 h_
 go_enter Try.func40,Try.ntmps40
 go_wp2_with (fail)
 refine (impl_areTwo.calls k _ _ l0 a1 a2 t1 _ (Kd.C_below HR0.out (by repeat (first|exact HB.out|apply below_alloc|apply pw_below_drewN|apply below_drew1))) HC0.out H1.out).mono ?_
 rintro e w5 ⟨rfl,hb⟩
 dsimp only
 have Yj:Aside0 (Boxed w5 (w.heap.size) 34 (.slice A0 l0.length c0)):=⟨boxed_below (by repeat (first|exact boxed_alloc (by first|rfl|(simp only [alloc_size];done))|apply Boxed.alloc)) hb⟩
 have Yf:Aside0 (Boxed w5 (w.heap.size + 1) 3 (.int .i64 a1)):=⟨boxed_below (by repeat (first|exact boxed_alloc (by first|rfl|(simp only [alloc_size];done))|apply Boxed.alloc)) hb⟩
 have Yg:Aside0 (Boxed w5 (w.heap.size + 1 + 1) 3 (.int .i64 a2)):=⟨boxed_below (by repeat (first|exact boxed_alloc (by first|rfl|(simp only [alloc_size];done))|apply Boxed.alloc)) hb⟩
 have Yk:Aside0 (Boxed w5 (w.heap.size + 1 + 1 + 1) 3 (.int .i64 a3)):=⟨boxed_below (by repeat (first|exact boxed_alloc (by first|rfl|(simp only [alloc_size];done))|apply Boxed.alloc)) hb⟩
 have HB5:=Aside0.mk (below_step (by repeat (first|exact HB.out|apply below_alloc|apply pw_below_drewN|apply below_drew1)) hb)
 clear HB hb
 have hH:=H.out
 clear H
 cases t1 with
 | false=>
  obtain ⟨rfl,rfl⟩:([]:List Int)=r1∧false=r2:=by simpa using hH
  go_wp2
  go_ret2
  exact ⟨_,rfl,Kd.R_nil _ _ _ _ _,by repeat (first|exact HB5.out|apply below_alloc|apply pw_below_drewN|apply below_drew1)⟩
 | true=>
  rw [if_pos rfl] at hH
  obtain ⟨fr,h3,hH⟩:=Option.bind_eq_some_iff.1 hH
  obtain ⟨b2,h4,hH⟩:=Option.bind_eq_some_iff.1 hH
  have H3:=Aside0.mk h3
  have H4:=Aside0.mk h4
  have H:=Aside0.mk hH
  clear h3 h4 hH
  have xj:=Yj.out.cell
  have xf:=Yf.out.cell
  have xg:=Yg.out.cell
  go_wp2_with (fail)
  refine (impl_frontOf.calls k _ _ l0 a1 a2 fr _ (Kd.C_below HR0.out HB5.out) HC0.out H3.out).mono ?_
  rintro e w6 ⟨v6,rfl,ho,hb⟩
  dsimp only
  obtain ⟨Aw,cw,e6⟩:=Kd.R_slice ho
  subst e6
  have CF:=Aside0.mk (Kd.R_reads' ho).2.2
  have Zj:=Aside0.mk (boxed_below Yj.out hb)
  have Zf:=Aside0.mk (boxed_below Yf.out hb)
  have Zg:=Aside0.mk (boxed_below Yg.out hb)
  have Zk:=Aside0.mk (boxed_below Yk.out hb)
  have HB6:=Aside0.mk (below_step HB5.out hb)
  clear ho hb xj xf xg Yj Yf Yg Yk HB5
  have xk:=(Zk.out.alloc (.cells #[.slice Aw fr.length cw] 47)).cell
  go_wp2_with (fail)
  refine (impl_isNumber.calls a3 (fr.length:Int) b2 _ H4.out).mono ?_
  rintro e w7 ⟨rfl,hd7⟩
  dsimp only
  have hb7:Below (w6.alloc (.cells #[.slice Aw fr.length cw] 47)).heap.size (w6.alloc (.cells #[.slice Aw fr.length cw] 47)) w7:=by obtain ⟨n_,rfl⟩:=hd7;exact pw_below_drewN (Below.refl _ _) n_
  have Xj:=Aside0.mk (boxed_below (Zj.out.alloc _) hb7)
  have Xf:=Aside0.mk (boxed_below (Zf.out.alloc _) hb7)
  have Xg:=Aside0.mk (boxed_below (Zg.out.alloc _) hb7)
  have Xk:=Aside0.mk (boxed_below (Zk.out.alloc _) hb7)
  have Xw:Aside0 (Boxed w7 w6.heap.size 47 (.slice Aw fr.length cw)):=⟨boxed_below (boxed_alloc rfl) hb7⟩
  have HB67:Aside0 (Below w6.heap.size w6 w7):=⟨below_step (below_alloc (Below.refl _ _) _) hb7⟩
  have HLK:Aside0 (w.heap.size + 1 + 1 + 1<w6.heap.size∧w6.heap.size<w7.heap.size):=⟨Zk.out.lt,Xw.out.lt⟩
  clear xk hd7 hb7 Zj Zf Zg Zk
  have hH:=H.out
  clear H
  cases b2 with
  | false=>
   obtain ⟨rfl,rfl⟩:([]:List Int)=r1∧false=r2:=by simpa using hH
   go_wp2
   go_ret2
   exact ⟨_,rfl,Kd.R_nil _ _ _ _ _,by repeat (first|exact below_step HB6.out HB67.out|apply below_alloc|apply pw_below_drewN|apply below_drew1)⟩
  | true=>
   rw [if_pos rfl] at hH
   split at hH
   case isFalse=>cases hH
   case isTrue hkk=>
   have HKK:=Aside0.mk hkk
   obtain ⟨s,h5,h_⟩:=Option.bind_eq_some_iff.1 hH
   have H5:=Aside0.mk h5
   have H:=Aside0.mk h_
   clear hH hkk h5 h_
   obtain ⟨W0,hW0⟩:∃ W0,W0=(w7.alloc (.cells #[.slice none 0 0] 41)).alloc (.cells #[.bool false] 4):=⟨_,rfl⟩
   have U1:Boxed W0 w7.heap.size 41 (.slice none 0 0):=by rw [hW0];exact (boxed_alloc rfl).alloc _
   have U2:Boxed W0 (w7.heap.size + 1) 4 (.bool false):=by rw [hW0];exact boxed_alloc (alloc_size _ _).symm
   have Zj:Boxed W0 (w.heap.size) 34 (.slice A0 l0.length c0):=by rw [hW0];exact (Xj.out.alloc _).alloc _
   have Zf:Boxed W0 (w.heap.size + 1) 3 (.int .i64 a1):=by rw [hW0];exact (Xf.out.alloc _).alloc _
   have Zg:Boxed W0 (w.heap.size + 1 + 1) 3 (.int .i64 a2):=by rw [hW0];exact (Xg.out.alloc _).alloc _
   have Zk:Boxed W0 (w.heap.size + 1 + 1 + 1) 3 (.int .i64 a3):=by rw [hW0];exact (Xk.out.alloc _).alloc _
   have Zw:Boxed W0 w6.heap.size 47 (.slice Aw fr.length cw):=by rw [hW0];exact (Xw.out.alloc _).alloc _
   have hb9:Below w6.heap.size w6 W0:=by rw [hW0];exact below_alloc (below_alloc HB67.out _) _
   have HLT:Aside0 (w.heap.size + 1 + 1 + 1<w6.heap.size∧w6.heap.size<w7.heap.size∧W0.heap.size=w7.heap.size + 1 + 1):=⟨HLK.out.1,HLK.out.2,by rw [hW0,alloc_size,alloc_size]⟩
   have Z:=Aside0.mk (show Below w6.heap.size w6 W0∧Boxed W0 (w7.heap.size + 1) 4 (.bool false)∧Boxed W0 (w.heap.size) 34 (.slice A0 l0.length c0)∧Boxed W0 (w.heap.size + 1) 3 (.int .i64 a1)∧Boxed W0 (w.heap.size + 1 + 1) 3 (.int .i64 a2)∧Boxed W0 w6.heap.size 47 (.slice Aw fr.length cw)∧Boxed W0 (w.heap.size + 1 + 1 + 1) 3 (.int .i64 a3)∧Boxed W0 w7.heap.size 41 (.slice none 0 0) from ⟨hb9,U2,Zj,Zf,Zg,Zw,Zk,U1⟩)
   have HW0:=Aside0.mk hW0
   have cj:=Zj.cell
   rw [hW0] at cj
   clear U1 U2 Zj Zf Zg Zk Zw hb9 hW0 Xj Xf Xg Xk Xw
   go_wp2_with (fail)
   rw [←HW0.out]
   refine (impl_eachOrder.calls (impl_FrontOrder.step l0 a1 a2 (rd_T77 fr a3)) 80 ?eg #[.pointer (some ⟨w7.heap.size + 1,0,none⟩),.pointer (some ⟨w.heap.size,0,none⟩),.pointer (some ⟨w.heap.size + 1,0,none⟩),.pointer (some ⟨w.heap.size + 1 + 1,0,none⟩),.pointer (some ⟨w6.heap.size,0,none⟩),.pointer (some ⟨w.heap.size + 1 + 1 + 1,0,none⟩),.pointer (some ⟨w7.heap.size,0,none⟩)] W0 (fun hi_ s_ W_=>impl_FrontOrder.inv w6 l0 A0 c0 a1 a2 Aw fr.length cw a3 (w7.heap.size + 1) (w.heap.size) (w.heap.size + 1) (w.heap.size + 1 + 1) w6.heap.size (w.heap.size + 1 + 1 + 1) w7.heap.size hi_ s_ W_) k _ ([],false) s ?init ?move ?step H5.out).mono ?_
   case eg=>intro args w;go_simp
   case init=>
    intro W_ hW_
    have hl:=HLT.out
    obtain ⟨z1,z2,z3,z4,z5,z6,z7,z8⟩:=Z.out
    exact ⟨z1.trans (hW_.mono (by omega)),(hW_.block _ (by omega)).trans z2,(hW_.block _ (by omega)).trans z3,(hW_.block _ (by omega)).trans z4,(hW_.block _ (by omega)).trans z5,(hW_.block _ (by omega)).trans z6,(hW_.block _ (by omega)).trans z7,_,(hW_.block _ (by omega)).trans z8,Kd.R_nil _ _ _ _ _⟩
   case move=>intro hi_ s_ W_ W2_ hle_ hi2_ hb_ hk_;exact impl_FrontOrder.inv_move hi2_ hb_ (by have:=HLT.out;omega) (by have:=HLT.out;omega) hk_
   case step=>intro hi_ k_ s_ s2_ W_ A_ c_ l_ hle_ hW_ hi2_ hC_ hc_ hs_;exact impl_FrontOrder.tell hi2_ (Kd.C_below HR0.out HB6.out) HC0.out CF.out HKK.out (by have:=HLT.out;omega) (by have:=HLT.out;simp only [List.mem_cons,List.not_mem_nil,or_false];omega) (by have:=HLT.out;omega) hle_ hW_ hC_ hc_ hs_
   rintro e w9 ⟨rfl,hi_,hle_,_,hz⟩
   dsimp only
   obtain ⟨z1,z2,z3,z4,z5,z6,z7,v9,z8,z9⟩:=hz
   obtain ⟨A9,c9,e9⟩:=Kd.R_slice z9
   subst e9
   have cf:=z8.cell
   have HB9:=Aside0.mk (below_step HB6.out z1)
   have HO9:=Aside0.mk (Kd.R_lower (Kd.R_mono z9 (fun _ _=>trivial) (ok':=fun _=>True)) (show w.heap.size≤hi_ by have:=HLT.out;omega))
   clear z1 z2 z3 z4 z5 z6 z7 z8 z9 Z HLT cj hle_ HW0
   obtain ⟨rfl,rfl⟩:s.1=r1∧true=r2:=by simpa using H.out
   go_wp2
   go_ret2
   exact ⟨_,rfl,by (with_reducible repeat (first|apply Kd.R_alloc|apply Kd.R_drewN|apply Kd.R_drew));exact HO9.out,by repeat (first|exact HB9.out|apply below_alloc|apply pw_below_drewN|apply below_drew1)⟩

end Go.Proofs.Ytbblhmpcpmamfaa.XFnExactFrontOrder
-- minified
