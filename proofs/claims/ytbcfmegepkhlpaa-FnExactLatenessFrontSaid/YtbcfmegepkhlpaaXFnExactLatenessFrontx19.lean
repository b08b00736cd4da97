-- Written by a program of this session (the kit's print, widened). Proved here: what each function answers, for the arguments that its contract names.
import Derived.Test.YtbcfmegepkhlpaaXFnExactLatenessFrontx0
namespace Go.Proofs.Ytbcfmegepkhlpaa.XFnExactLatenessFront
open Go.RowKit Go.Proofs.YtbcfmegepkhlpaaW.PrintWords Go.Proofs.YtbcfmegepkhlpaaW.PrintLast Go.Proofs.YtbcfmegepkhlpaaW.PrintMore
attribute [local go_sem] max2_int min2_int max_two min_two max_three min_three max_four min_four   -- for this text's walks alone
attribute [local go_sem] idxA_72_0 idxA_72_1 fldS_96_0 fldS_96_1 fldS_96_2 fldS_111_0 fldS_111_1 fldS_111_2
set_option linter.unusedVariables false
set_option linter.unusedSimpArgs false

/-! ### laws_heldIntA2S: function 17, by hand -/
/-! ### laws_heldIntA2S, by hand -/
def laws_heldIntA2S.l0:Nat→List S72→Int→Int→Option Int
 | 0,_,_,_=>none
 | k + 1,x0,x1,x5=>if 0≤x5∧x5<(x0.length:Int) then (if (rd_T72 x0 x5).f0=x1 then (if (rd_T72 x0 x5).f1=wrap64 (x1 + 1) then laws_heldIntA2S.l0 k x0 (wrap64 (wrap64 (x1 + 1) + 1)) (wrap64 (x5 + 1)) else some (-1)) else some (-1)) else (if x5<(x0.length:Int) then none else some x1)
def laws_heldIntA2S.f (k:Nat) (l0:List S72) (a1:Int):Option Int:=if l0.length≤1048576 then laws_heldIntA2S.l0 k l0 a1 0 else none
theorem laws_heldIntA2S.mono_l:∀ k,(∀ y0 y1 y2,LeO (laws_heldIntA2S.l0 k y0 y1 y2) (laws_heldIntA2S.l0 (k + 1) y0 y1 y2))
 | 0=>fun _ _ _ r h=>by simp [laws_heldIntA2S.l0] at h
 | k + 1=>by
  have ih:=laws_heldIntA2S.mono_l k
  intro y0 y1 y2
  unfold laws_heldIntA2S.l0
  exact LeO.ite (LeO.ite (LeO.ite (ih _ _ _) (LeO.refl _)) (LeO.refl _)) (LeO.refl _)
theorem laws_heldIntA2S.mono:∀ a0 a1 k,LeO (laws_heldIntA2S.f k a0 a1) (laws_heldIntA2S.f (k + 1) a0 a1):=fun a0 a1 k=>LeO.ite (laws_heldIntA2S.mono_l k a0 a1 0) (LeO.refl _)
set_option maxHeartbeats 8000000 in
set_option maxRecDepth 100000 in
theorem laws_heldIntA2S.calls (k:Nat) (A0:Option Addr) (c0:Nat) (l0:List S72) (a1:Int) (r:Int) (w:World) (hr0:Kd.C k72 w A0 l0.length l0) (hc0:l0.length≤c0) (h:laws_heldIntA2S.f k l0 a1=some r) :
  Calls Try.prog 17 #[.slice A0 l0.length c0,.int .i64 a1] w fun e w'=>e=.returned (.int .i64 r)∧Below w.heap.size w w':=by
 have HR0:=Aside0.mk hr0
 have HB:=Aside0.mk (Below.refl w.heap.size w)
 unfold laws_heldIntA2S.f at h
 split at h
 case isFalse=>cases h
 case isTrue hlen=>
 have HLEN:=Aside0.mk hlen
 have H':=Aside0.mk h
 clear hr0 hc0 h hlen
 go_enter Try.func17,Try.ntmps17
 go_wp2
 go_loopg [1,5] k (fun kq v1 v5 w'=>∃ (x1 x5:Int),v1=.int .i64 x1∧v5=.int .i64 x5∧Aside0 (laws_heldIntA2S.l0 kq l0 x1 x5=some r)∧Aside0 (kq≤k)∧Aside0 (0≤x5∧x5≤(l0.length:Int))∧Aside0 (Below w.heap.size w w'))
 case atStart=>exact ⟨a1,0,rfl,rfl,H',⟨Nat.le_refl _⟩,⟨by omega⟩,HB⟩
 case round=>
  clear HB H'
  obtain ⟨x1,x5,rfl,rfl,HA,HK1,HL,HB⟩:=hrel
  cases gk with
  | zero=>exact absurd HA.out (by simp [laws_heldIntA2S.l0])
  | succ k1=>
  have H:=HA.out
  clear HA
  rw [laws_heldIntA2S.l0] at H
  by_cases c:x5<(l0.length:Int)
  ·rw [if_pos (by have:=HL.out;omega)] at H
   have cb:decide (x5<(l0.length:Int))=true:=decide_eq_true c
   have p1:0≤x5:=HL.out.1
   obtain ⟨ad1,e1,hx0,hx1⟩:=at_T72 (Kd.C_below HR0.out HB.out) x5 p1 c
   subst e1
   obtain ⟨n0,hn0⟩:∃ n_:Int,(rd_T72 l0 x5).f0=n_:=⟨_,rfl⟩
   obtain ⟨n1,hn1⟩:∃ n_:Int,(rd_T72 l0 x5).f1=n_:=⟨_,rfl⟩
   rw [hn0] at hx0 H
   rw [hn1] at hx1 H
   obtain ⟨x2,hx2⟩:∃ n_:Int,wrap64 (x1 + 1)=n_:=⟨_,rfl⟩
   have hw2:IntKind.i64.wrap (x1 + 1)=x2:=(i64_w _).trans hx2
   rw [hx2] at H
   have HW:Aside0 (wrap64 (x5 + 1)=x5 + 1∧0≤x5 + 1∧x5 + 1≤(l0.length:Int)):=⟨by unfold wrap64;have:=HLEN.out;omega,by omega,by omega⟩
   have q1:=eq_true c
   replace p1:=eq_true p1
   have hn0':=hn0
   have hn1':=hn1
   have e1_:=0
   clear c hn0 hn1
   have HIX:=Aside0.mk (And.intro p1 q1)
   have HV:=Aside0.mk (And.intro hn0' hn1')
   have H2:=Aside0.mk H
   clear H hx0 hx1 e1_ hn0' hn1'
   go_wp2
   go_loopg [1,6] 2 (fun kq v1 v6 w'=>∃ (x j:Int),v1=.int .i64 x∧v6=.int .i64 j∧Aside0 (j + (kq:Int)=2∧0≤j)∧Aside0 ((j=0→x=x1)∧(j=1→x=x2∧n0=x1)∧(j=2→x=wrap64 (x2 + 1)∧n0=x1∧n1=x2))∧Aside0 (Below w.heap.size w w'))
   case atStart=>exact ⟨x1,0,(by first|rfl|(simp;done)),(by first|rfl|(simp;done)),⟨by omega⟩,⟨fun _=>rfl,fun h=>absurd h (by decide),fun h=>absurd h (by decide)⟩,HB⟩
   case round=>
    clear HB
    obtain ⟨x,j,rfl,rfl,HJ,HY,HB⟩:=hrel
    obtain ⟨ad2,e2,hx0,hx1⟩:=at_T72 (Kd.C_below HR0.out HB.out) x5 (of_eq_true HIX.out.1) (of_eq_true HIX.out.2)
    injection e2 with e2
    subst e2
    rw [HV.out.1] at hx0
    rw [HV.out.2] at hx1
    have hx2_:=hx1
    rw [←add_field _ _ 1 (by omega)] at hx2_
    have p1:=HIX.out.1
    have q1:=HIX.out.2
    have hc3:j=0∨j=1∨j=2:=by have:=HJ.out;omega
    rcases hc3 with hj|hj|hj
    ·subst hj
     have ey:=HY.out.1 rfl
     subst ey
     by_cases e0:n0=x
     ·have b0:(n0 != x)=false:=by simp [e0]
      have E0:=Aside0.mk e0
      clear e0
      go_wp2
      go_roundg 1
      case measure=>have:=HJ.out;omega
      case rel=>exact ⟨x2,1,(by first|rfl|(rw [hw2])|(simp [hw2];done)),(by first|rfl|(simp;done)),⟨by omega⟩,⟨fun h=>absurd h (by decide),fun _=>⟨rfl,E0.out⟩,fun h=>absurd h (by decide)⟩,⟨by repeat (first|exact HB.out|apply below_alloc|apply pw_below_drewN|apply below_drew1)⟩⟩
     ·have b0:(n0 != x)=true:=by simpa using e0
      have H3:some (-1)=some r:=by have:=H2.out;rwa [if_neg e0] at this
      obtain rfl:=Option.some.inj H3
      clear e0 H3
      go_wp2
      go_ret
      exact ⟨rfl,by repeat (first|exact HB.out|apply below_alloc|apply pw_below_drewN|apply below_drew1)⟩
    ·subst hj
     obtain ⟨ey,hn⟩:=HY.out.2.1 rfl
     subst ey
     by_cases e0:n1=x
     ·have b0:(n1 != x)=false:=by simp [e0]
      have E0:=Aside0.mk e0
      clear e0
      go_wp2
      go_roundg 0
      case measure=>have:=HJ.out;omega
      case rel=>exact ⟨wrap64 (x + 1),2,(by first|rfl|(rw [i64_w])|(simp;done)),(by first|rfl|(simp;done)),⟨by omega⟩,⟨fun h=>absurd h (by decide),fun h=>absurd h (by decide),fun _=>⟨rfl,hn,E0.out⟩⟩,⟨by repeat (first|exact HB.out|apply below_alloc|apply pw_below_drewN|apply below_drew1)⟩⟩
     ·have b0:(n1 != x)=true:=by simpa using e0
      have H3:some (-1)=some r:=by have:=H2.out;rwa [if_pos hn,if_neg e0] at this
      obtain rfl:=Option.some.inj H3
      clear e0 H3
      go_wp2
      go_ret
      exact ⟨rfl,by repeat (first|exact HB.out|apply below_alloc|apply pw_below_drewN|apply below_drew1)⟩
    ·subst hj
     obtain ⟨ey,hn,hn'⟩:=HY.out.2.2 rfl
     subst ey
     have H3:=H2.out
     rw [if_pos hn,if_pos hn',HW.out.1] at H3
     have H4:=Aside0.mk H3
     clear H3
     go_wp2
     go_roundg k1
     case measure=>have:=HK1.out;omega
     case rel=>exact ⟨wrap64 (x2 + 1),x5 + 1,(by first|rfl|(simp;done)),(by first|rfl|(rw [i64_w,HW.out.1])|(simp [HW.out.1];done)),H4,⟨by have:=HK1.out;omega⟩,⟨HW.out.2⟩,⟨by repeat (first|exact HB.out|apply below_alloc|apply pw_below_drewN|apply below_drew1)⟩⟩
  ·rw [if_neg (by have:=HL.out;omega),if_neg (by have:=HL.out;omega)] at H
   have cb:decide (x5<(l0.length:Int))=false:=decide_eq_false c
   obtain rfl:=Option.some.inj H
   clear c
   go_wp2
   go_ret
   exact ⟨rfl,by repeat (first|exact HB.out|apply below_alloc|apply pw_below_drewN|apply below_drew1)⟩

end Go.Proofs.Ytbcfmegepkhlpaa.XFnExactLatenessFront
-- minified
