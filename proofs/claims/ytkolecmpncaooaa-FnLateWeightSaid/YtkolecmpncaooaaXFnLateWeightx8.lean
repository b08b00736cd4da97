-- Written by a program of this session (the kit's print, widened). Proved here: what each function answers, for the arguments that its contract names.
import Derived.Test.YtkolecmpncaooaaXFnLateWeightx0
import Derived.Test.YtkolecmpncaooaaXFnLateWeightx5
import Derived.Test.YtkolecmpncaooaaXFnLateWeightx6
namespace Go.Proofs.Ytkolecmpncaooaa.XFnLateWeight
open Go.RowKit Go.Proofs.YtkolecmpncaooaaW.PrintWords Go.Proofs.YtkolecmpncaooaaW.PrintLast Go.Proofs.YtkolecmpncaooaaW.PrintMore
attribute [local go_sem] max2_int min2_int max_two min_two max_three min_three max_four min_four   -- for this text's walks alone
attribute [local go_sem] idxA_51_0 idxA_51_1 fldS_45_0 fldS_45_1 fldS_45_2 fldS_96_0 fldS_96_1 fldS_96_2
set_option linter.unusedVariables false
set_option linter.unusedSimpArgs false

/-! ### impl_onTime: function 60, by hand -/
def dueLt (l0:List S31):Int→Int→Bool:=fun a b=>decide ((rd_T31 l0 a).f3<(rd_T31 l0 b).f3)
def onTimeF (l0:List S31):List Int→Int→Bool
 | [],_=>true
 | x::xs,t=>if wrap64 (t + (rd_T31 l0 x).f0)>(rd_T31 l0 x).f3 then false else onTimeF l0 xs (wrap64 (t + (rd_T31 l0 x).f0))
set_option maxHeartbeats 8000000 in
set_option maxRecDepth 100000 in
theorem impl_onTime1.cmp (box:Addr) (A0:Option Addr) (c0:Nat) (l0:List S31) (W:World) (hbox:W.cell? box=some (.slice A0 l0.length c0)) (hr:Kd.C k31 W A0 l0.length l0) (a b:Int) (ha:0≤a∧a<l0.length) (hb:0≤b∧b<l0.length) :
  Calls Try.prog 97 #[.int .i64 a,.int .i64 b,.pointer (some box)] W fun e W'=>e=.returned (.bool (dueLt l0 a b))∧∃ n,W'=W.drewN n:=by
 obtain ⟨ad1,e1,_,_,_,hx1⟩:=at_T31 hr a ha.1 ha.2
 obtain ⟨ad2,e2,_,_,_,hx2⟩:=at_T31 hr b hb.1 hb.2
 subst e1
 obtain rfl:ad1=ad2:=by injection e2
 clear hr e2
 have p1:=eq_true ha.1
 have q1:=eq_true ha.2
 have p2:=eq_true hb.1
 have q2:=eq_true hb.2
 clear ha hb
 go_enter Try.func97,Try.ntmps97
 go_wp2
 go_region
 all_goals (go_wp2;go_ret;exact ⟨rfl,1,rfl⟩)
def impl_onTime.f (k:Nat) (l0:List S31) (l1:List Int):Option Bool:=if l1.length≤1048576∧∀ x ∈ l1,0≤x∧x<(l0.length:Int) then some (onTimeF l0 (insAll (dueLt l0) l1 []) 0) else none
theorem impl_onTime.mono:∀ l0 l1 k,LeO (impl_onTime.f k l0 l1) (impl_onTime.f (k + 1) l0 l1):=by
 intro l0 l1 k r h
 exact h
set_option maxHeartbeats 8000000 in
set_option maxRecDepth 100000 in
theorem impl_onTime.calls (k:Nat) (A0:Option Addr) (c0:Nat) (l0:List (S31)) (A1:Option Addr) (c1:Nat) (l1:List Int) (r:Bool) (w:World) (hr0:Kd.C k31 w A0 l0.length l0) (hc0:l0.length≤c0) (hr1:Kd.C (Kd.int .i64) w A1 l1.length l1) (hc1:l1.length≤c1) (h:impl_onTime.f k l0 l1=some r) :
  Calls Try.prog 60 #[.slice A0 l0.length c0,.slice A1 l1.length c1] w fun e w'=>e=.returned (.bool r)∧Below w.heap.size w w':=by
 unfold impl_onTime.f at h
 split at h
 case isFalse=>cases h
 case isTrue h3=>
 obtain rfl:=Option.some.inj h
 have HR0:=Aside0.mk hr0
 have HC0:=Aside0.mk hc0
 have HR1:=Aside0.mk hr1
 have HC1:=Aside0.mk hc1
 have H3:=Aside0.mk h3
 have HB:=Aside0.mk (Below.refl w.heap.size w)
 clear hr0 hc0 hr1 hc1 h h3
 obtain ⟨ord,hord⟩:∃ ord:List Int,ord=insAll (dueLt l0) l1 []:=⟨_,rfl⟩
 rw [←hord]
 have HORD:=Aside0.mk hord
 clear hord
 go_enter Try.func60,Try.ntmps60
 go_wp2_with (fail)
 refine (impl_sortedBy.calls 97 ?eg #[.pointer (some ⟨w.heap.size,0,none⟩)] (dueLt l0) (fun x=>0≤x∧x<(l0.length:Int)) A1 c1 l1 _ (Kd.C_alloc HR1.out _) HC1.out H3.out.2 H3.out.1 ?cmp).mono ?_
 case eg=>intro args w;go_simp
 case cmp=>
  intro W hW a b ha hb
  refine impl_onTime1.cmp _ A0 c0 l0 W ((hW.cell (p:=⟨w.heap.size,0,none⟩) (by show w.heap.size<(w.heap.push _).size;rw [Array.size_push];omega)).trans (by go_simp)) (Kd.C_below HR0.out (below_step (by repeat (first|(with_reducible first|exact HB.out|apply below_alloc)|exact HB.out)) hW)) a b ha hb
 rw [←HORD.out]
 rintro e w4 ⟨v4,rfl,ho0,hb⟩
 dsimp only
 have HBox:Aside0 (w4.cell? ⟨w.heap.size,0,none⟩=some (.slice A0 l0.length c0)):=⟨(hb.cell (p:=⟨w.heap.size,0,none⟩) (by show w.heap.size<(w.heap.push _).size;rw [Array.size_push];omega)).trans (by go_simp)⟩
 have n1_:=Aside0.mk (below_step (show Below w.heap.size w _ from by repeat (first|(with_reducible first|exact HB.out|apply below_alloc)|exact HB.out)) hb)
 have HO_4:=Aside0.mk (Kd.R_lower ho0 (show w.heap.size≤_ from by show w.heap.size≤(w.heap.push _).size;rw [Array.size_push];omega))
 clear HB ho0 hb
 have HB:=n1_
 clear n1_
 obtain ⟨Ao4,co4,eo4⟩:=Kd.R_slice HO_4.out
 subst eo4
 have HOL:Aside0 (∀ x ∈ ord,0≤x∧x<(l0.length:Int)):=⟨by rw [HORD.out];exact insAll_all l1 [] H3.out.2 (by simp)⟩
 go_wp2
 have H':Aside0 (onTimeF l0 (ord.drop (0:Int).toNat) 0=onTimeF l0 ord 0):=⟨by simp⟩
 have HLEN:Aside0 (ord.length≤1048576):=⟨by rw [HORD.out,insAll_length];simpa using H3.out.1⟩
 go_loopg [5,12] ord.length (fun kq v5 v12 w'=>∃ (t i:Int),v5=.int .i64 t∧v12=.int .i64 i∧Aside0 (onTimeF l0 (ord.drop i.toNat) t=onTimeF l0 ord 0)∧Aside0 (0≤i∧i.toNat + kq=ord.length)∧Aside0 (w'.cell? ⟨w.heap.size,0,none⟩=some (.slice A0 l0.length c0))∧Aside0 (Kd.R (Kd.int .i64) 3 w' w.heap.size (fun _=>True) (.slice Ao4 ord.length co4) ord)∧Aside0 (Below w.heap.size w w'))
 case atStart=>exact ⟨0,0,(by first|rfl|(simp;done)),(by first|rfl|(simp;done)),H',⟨by omega⟩,HBox,HO_4,HB⟩
 case round=>
  clear H' HO_4 HB HBox
  obtain ⟨t,i,rfl,rfl,HA,HK1,HBox,HO_4,HB⟩:=hrel
  by_cases c:i<(ord.length:Int)
  rotate_left
  ·have cb:=decide_eq_false c
   have hfin:onTimeF l0 ord 0=true:=by rw [←HA.out,List.drop_of_length_le (by have:=HK1.out;omega),onTimeF]
   go_wp2
   go_ret
   exact ⟨by first|rfl|(rw [hfin];rfl)|(simp [hfin];done),zb⟩
  have cb:=decide_eq_true c
  have p1:0≤i:=HK1.out.1
  have q1:i<(ord.length:Int):=c
  obtain ⟨ad1,e1,hx1_0⟩:=Kd.at_int (Kd.R_reads' HO_4.out).2.2 i p1 q1
  subst e1
  obtain ⟨x,hx⟩:∃ x:Int,rd ord i=x:=⟨_,rfl⟩
  have hxd:0≤x∧x<(l0.length:Int):=by rw [←hx,rd_int p1 q1];exact HOL.out _ (List.getElem_mem _)
  rw [hx] at hx1_0
  have p2:=hxd.1
  have q2:=hxd.2
  obtain ⟨ad2,e2,hx2_0,_,_,hx2_3⟩:=at_T31 HR0.out x p2 q2
  subst e2
  replace hx2_0:=zh_ HB hx2_0
  replace hx2_3:=zh_ HB hx2_3
  have hbx:=HBox.out
  have HA2:Aside0 ((if wrap64 (t + (rd_T31 l0 x).f0)>(rd_T31 l0 x).f3 then false else onTimeF l0 (ord.drop (i.toNat + 1)) (wrap64 (t + (rd_T31 l0 x).f0)))=onTimeF l0 ord 0):=⟨by
   rw [←HA.out,List.drop_eq_getElem_cons (show i.toNat<ord.length by omega),onTimeF,←rd_int p1 q1,hx]⟩
  clear c
  replace p1:=eq_true p1
  replace q1:=eq_true q1
  replace p2:=eq_true p2
  replace q2:=eq_true q2
  obtain ⟨t2,ht2⟩:∃ t2:Int,wrap64 (t + (rd_T31 l0 x).f0)=t2:=⟨_,rfl⟩
  rw [ht2] at HA2
  have hw:IntKind.i64.wrap (t + (rd_T31 l0 x).f0)=t2:=(i64_w _).trans ht2
  by_cases c2:t2>(rd_T31 l0 x).f3
  ·have cb2:=decide_eq_true c2
   rw [if_pos c2] at HA2
   go_wp2
   go_ret
   have hfin:=HA2.out.symm
   exact ⟨by first|rfl|(rw [hfin];rfl)|(simp [hfin];done),zb⟩
  have cb2:=decide_eq_false c2
  rw [if_neg c2] at HA2
  go_wp2
  have HW:Aside0 (wrap64 (i + 1)=i + 1):=⟨by unfold wrap64;have h1:=HK1.out;have:=HLEN.out;omega⟩
  go_roundg (ord.length - (i.toNat + 1))
  case measure=>have:=HK1.out;have:=of_decide_eq_true cb;omega
  case rel=>
   refine ⟨t2,i + 1,zo,(by first|rfl|(rw [i64_w,HW.out])|(simp [HW.out];done)|(simp [*];done)),⟨?_⟩,⟨?_⟩,⟨?_⟩,⟨?_⟩,⟨?_⟩⟩
   ·rw [←HA2.out,show (i + 1).toNat=i.toNat + 1 by have:=HK1.out;omega]
   ·have h1:=HK1.out;have:=of_decide_eq_true cb;omega
   ·go_simp
   ·(with_reducible repeat (first|apply Kd.R_alloc|apply Kd.R_drewN|apply Kd.R_drew));exact HO_4.out
   ·repeat (first|(with_reducible first|exact HB.out|apply below_alloc|apply pw_below_drewN|apply below_drew1)|exact HB.out)

end Go.Proofs.Ytkolecmpncaooaa.XFnLateWeight
-- minified
