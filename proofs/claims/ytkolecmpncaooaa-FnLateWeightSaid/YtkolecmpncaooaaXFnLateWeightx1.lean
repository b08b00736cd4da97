-- Written by a program of this session (the kit's print, widened). Proved here: what each function answers, for the arguments that its contract names.
import Derived.Test.YtkolecmpncaooaaXFnLateWeightx0
namespace Go.Proofs.Ytkolecmpncaooaa.XFnLateWeight
open Go.RowKit Go.Proofs.YtkolecmpncaooaaW.PrintWords Go.Proofs.YtkolecmpncaooaaW.PrintLast Go.Proofs.YtkolecmpncaooaaW.PrintMore
attribute [local go_sem] max2_int min2_int max_two min_two max_three min_three max_four min_four   -- for this text's walks alone
attribute [local go_sem] idxA_51_0 idxA_51_1 fldS_45_0 fldS_45_1 fldS_45_2 fldS_96_0 fldS_96_1 fldS_96_2
set_option linter.unusedVariables false
set_option linter.unusedSimpArgs false

/-! ### laws_rBig: function 5 -/
def laws_rBig.f (l0:List Int):Option (Bool):=some (decide ((l0.length:Int)>65536))
set_option maxHeartbeats 8000000 in
set_option maxRecDepth 100000 in
theorem laws_rBig.calls (A0:Option Addr) (c0:Nat) (l0:List Int) (r:Bool) (w:World) (hr0:Kd.C (Kd.int .u8) w A0 l0.length l0) (hc0:l0.length≤c0) (h:laws_rBig.f l0=some r) :
  Calls Try.prog 5 #[.slice A0 l0.length c0] w fun e w'=>e=.returned (.bool r)∧Drawn0 w w':=by
 have HR0:=Aside0.mk hr0
 have HC0:=Aside0.mk hc0
 clear hr0 hc0
 have H:(some (decide ((l0.length:Int)>65536)))=some r:=h
 clear h
 obtain rfl:=Option.some.inj H
 go_enter Try.func5,Try.ntmps5
 go_wp2
 go_ret
 exact ⟨zz7,zz5⟩

/-- A state of type 45 at block g of W; what its slices lead to came in by w0. -/
def IsS45 (w0 W:World) (g:Nat) (f0:List Int) (f1:Int) (f2:Int):Prop:=∃ A0 c0,W.heap[g]?=some (.cells #[.slice A0 f0.length c0,.int .i64 f1,.int .u64 f2] 45 (0,0))∧w0.heap.size≤g∧Kd.C (Kd.int .u8) w0 A0 f0.length f0
theorem IsS45.grown {w0 W:World} {g:Nat} {f0:List Int} {f1:Int} {f2:Int} {W1:World} {row:Option Nat} (h:IsS45 w0 W g f0 f1 f2) (hw:W.grownBy W1 row) (hne:some g≠row):IsS45 w0 W1 g f0 f1 f2:=by
 obtain ⟨A0,c0,hb,hg,hr0⟩:=h
 exact ⟨A0,c0,blk_grown hb hw hne,hg,hr0⟩
theorem IsS45.own_neN {w0 W:World} {g:Nat} {f0:List Int} {f1:Int} {f2:Int} {α:Type} {d:Kd α} {e:Nat} {base:Nat} {ok:Nat→Prop} {v:Value} {xs:List α} (h:IsS45 w0 W g f0 f1 f2) (ho:Kd.N d e W base ok v xs) (ht:e≠45):some g≠v.ownBlock:=by
 obtain ⟨A0,c0,hb,hg,hr0⟩:=h
 exact Kd.N_ne ho hb ht
theorem IsS45.fresh {w0 W:World} {g:Nat} {f0:List Int} {f1:Int} {f2:Int} (h:IsS45 w0 W g f0 f1 f2):∀ k,W.heap.size≤k→k≠g:=by
 obtain ⟨A0,c0,hb,hg,hr0⟩:=h
 exact Kd.freshB hb
theorem IsS45.kept {w0 W:World} {g:Nat} {f0:List Int} {f1:Int} {f2:Int} {W1:World} {S:Nat→Prop} (h:IsS45 w0 W g f0 f1 f2) (hk:Kept W W1 S) (hne:¬ S g):IsS45 w0 W1 g f0 f1 f2:=by
 obtain ⟨A0,c0,hb,hg,hr0⟩:=h
 exact ⟨A0,c0,blk_kept hb hk hne,hg,hr0⟩
theorem IsS45.below {w0 W:World} {g:Nat} {f0:List Int} {f1:Int} {f2:Int} {W1:World} (h:IsS45 w0 W g f0 f1 f2) (hw:Below W.heap.size W W1):IsS45 w0 W1 g f0 f1 f2:=h.grown (grown_of_below hw none) (by simp)
theorem IsS45.alloc {w0 W:World} {g:Nat} {f0:List Int} {f1:Int} {f2:Int} (h:IsS45 w0 W g f0 f1 f2) (o:Obj):IsS45 w0 (W.alloc o) g f0 f1 f2:=h.below (below_alloc (Below.refl _ _) o)
theorem IsS45.drewN {w0 W:World} {g:Nat} {f0:List Int} {f1:Int} {f2:Int} (h:IsS45 w0 W g f0 f1 f2) (m:Nat):IsS45 w0 (W.drewN m) g f0 f1 f2:=h
theorem IsS45.drew {w0 W:World} {g:Nat} {f0:List Int} {f1:Int} {f2:Int} (h:IsS45 w0 W g f0 f1 f2):IsS45 w0 W.drew g f0 f1 f2:=h
theorem IsS45.at_ {w0 W:World} {g:Nat} {f0:List Int} {f1:Int} {f2:Int} {w':World} {m:Nat} (hq:W.drewN m=w') (h:IsS45 w0 W g f0 f1 f2):IsS45 w0 w' g f0 f1 f2:=by subst hq;exact IsS45.drewN h m
theorem IsS45.apart {w0 W:World} {g:Nat} {f0:List Int} {f1:Int} {f2:Int} {α:Type} {d:Kd α} {e:Nat} {base:Nat} {ok:Nat→Prop} {v:Value} {xs:List α} (h:IsS45 w0 W g f0 f1 f2) (ho:d.R e W base ok v xs) (ht:∀ q,q ∈ e::d.E→q≠45):d.R e W base (fun k=>ok k∧k≠g) v xs:=by
 obtain ⟨A0,c0,hb,hg,hr0⟩:=h
 exact Kd.R_types ho hb ht
theorem IsS45.own_ne {w0 W:World} {g:Nat} {f0:List Int} {f1:Int} {f2:Int} {α:Type} {d:Kd α} {e:Nat} {base:Nat} {ok:Nat→Prop} {v:Value} {xs:List α} (h:IsS45 w0 W g f0 f1 f2) (ho:d.R e W base ok v xs) (ht:e≠45):some g≠v.ownBlock:=by
 obtain ⟨A0,c0,hb,hg,hr0⟩:=h
 exact Kd.R_ne ho hb ht
theorem IsS45.apartQ {w0 W:World} {g:Nat} {f0:List Int} {f1:Int} {f2:Int} {α:Type} {d:Kd α} {e:Nat} {base:Nat} {ok:Nat→Prop} {v:Value} {xs:List α} (h:IsS45 w0 W g f0 f1 f2) (ho:d.Q e W base ok v xs) (ht:∀ q,q ∈ e::d.E→q≠45):d.Q e W base (fun k=>ok k∧k≠g) v xs:=by
 obtain ⟨A0,c0,hb,hg,hr0⟩:=h
 exact Kd.Q_types ho hb ht
theorem IsS45.own_neQ {w0 W:World} {g:Nat} {f0:List Int} {f1:Int} {f2:Int} {α:Type} {d:Kd α} {e:Nat} {base:Nat} {ok:Nat→Prop} {v:Value} {xs:List α} (h:IsS45 w0 W g f0 f1 f2) (ho:d.Q e W base ok v xs) (ht:e≠45):some g≠v.ownBlock:=by
 obtain ⟨A0,c0,hb,hg,hr0⟩:=h
 exact Kd.Q_ne ho hb ht
theorem IsS45.apartS {w0 W:World} {g:Nat} {f0:List Int} {f1:Int} {f2:Int} {α:Type} {d:Kd α} {e:Nat} {base:Nat} {ok:Nat→Prop} {v:Value} {xs:List α} (h:IsS45 w0 W g f0 f1 f2) (ho:d.S e W base ok v xs) (ht:∀ q,q ∈ e::d.E→q≠45):d.S e W base (fun k=>ok k∧k≠g) v xs:=by
 obtain ⟨A0,c0,hb,hg,hr0⟩:=h
 exact Kd.S_types ho hb ht
theorem IsS45.own_neS {w0 W:World} {g:Nat} {f0:List Int} {f1:Int} {f2:Int} {α:Type} {d:Kd α} {e:Nat} {base:Nat} {ok:Nat→Prop} {v:Value} {xs:List α} (h:IsS45 w0 W g f0 f1 f2) (ho:d.S e W base ok v xs) (ht:e≠45):some g≠v.ownBlock:=by
 obtain ⟨A0,c0,hb,hg,hr0⟩:=h
 exact Kd.S_ne ho hb ht
theorem IsS45.lt {w0 W:World} {g:Nat} {f0:List Int} {f1:Int} {f2:Int} (h:IsS45 w0 W g f0 f1 f2):g<W.heap.size:=by
 obtain ⟨A0,c0,hb,hg,hr0⟩:=h
 exact blk_lt hb
theorem IsS45.ge {w0 W:World} {g:Nat} {f0:List Int} {f1:Int} {f2:Int} (h:IsS45 w0 W g f0 f1 f2):w0.heap.size≤g:=by
 obtain ⟨A0,c0,hb,hg,hr0⟩:=h
 exact hg
theorem IsS45.ne_blk {w0 W:World} {g:Nat} {f0:List Int} {f1:Int} {f2:Int} {a:Nat} {cs:Array Value} {t:TypeId} {fr:Nat × Nat} (h:IsS45 w0 W g f0 f1 f2) (hb2:W.heap[a]?=some (.cells cs t fr)) (ht:t≠45):g≠a:=by
 obtain ⟨A0,c0,hb,hg,hr0⟩:=h
 rintro rfl
 rw [hb] at hb2
 injection hb2 with hb2
 injection hb2 with _ ht2
 exact ht ht2.symm
theorem IsS45.far {w0 W:World} {g:Nat} {f0:List Int} {f1:Int} {f2:Int} {p:Addr} (h:IsS45 w0 W g f0 f1 f2) (hne:g≠p.block) (u:Value):IsS45 w0 (W.setCell p u) g f0 f1 f2:=by
 obtain ⟨A0,c0,hb,hg,hr0⟩:=h
 exact ⟨A0,c0,blk_far hb hne u,hg,hr0⟩
theorem cellS45_0 {W:World} {g:Nat} {A0:Option Addr} {c0:Nat} {f0:List Int} {f1:Int} {f2:Int} (h:W.heap[g]?=some (.cells #[.slice A0 f0.length c0,.int .i64 f1,.int .u64 f2] 45 (0,0))):W.cell? ⟨g,0,none⟩=some (.slice A0 f0.length c0):=(blk_cell h 0).trans rfl
theorem cellS45_1 {W:World} {g:Nat} {A0:Option Addr} {c0:Nat} {f0:List Int} {f1:Int} {f2:Int} (h:W.heap[g]?=some (.cells #[.slice A0 f0.length c0,.int .i64 f1,.int .u64 f2] 45 (0,0))):W.cell? ⟨g,1,none⟩=some (.int .i64 f1):=(blk_cell h 1).trans rfl
theorem IsS45.set_1 {w0 W:World} {g:Nat} {f0:List Int} {f1:Int} {f2:Int} (h:IsS45 w0 W g f0 f1 f2) (x:Int):IsS45 w0 (W.setCell ⟨g,1,none⟩ (.int .i64 x)) g f0 x f2:=by
 obtain ⟨A0,c0,hb,hg,hr0⟩:=h
 exact ⟨A0,c0,by simpa using blk_set hb 1 (.int .i64 x),hg,hr0⟩
theorem cellS45_2 {W:World} {g:Nat} {A0:Option Addr} {c0:Nat} {f0:List Int} {f1:Int} {f2:Int} (h:W.heap[g]?=some (.cells #[.slice A0 f0.length c0,.int .i64 f1,.int .u64 f2] 45 (0,0))):W.cell? ⟨g,2,none⟩=some (.int .u64 f2):=(blk_cell h 2).trans rfl
theorem IsS45.set_2 {w0 W:World} {g:Nat} {f0:List Int} {f1:Int} {f2:Int} (h:IsS45 w0 W g f0 f1 f2) (x:Int):IsS45 w0 (W.setCell ⟨g,2,none⟩ (.int .u64 x)) g f0 f1 x:=by
 obtain ⟨A0,c0,hb,hg,hr0⟩:=h
 exact ⟨A0,c0,by simpa using blk_set hb 2 (.int .u64 x),hg,hr0⟩
theorem IsS45.new (w0 W:World) (A0:Option Addr) (c0:Nat) (f0:List Int) (f1:Int) (f2:Int) (hB:Below w0.heap.size w0 W) (hr0:Kd.C (Kd.int .u8) w0 A0 f0.length f0):IsS45 w0 (W.alloc (.cells #[.slice A0 f0.length c0,.int .i64 f1,.int .u64 f2] 45)) W.heap.size f0 f1 f2:=⟨A0,c0,by simpa using heap_alloc_new W _,hB.size,hr0⟩

/-! ### spec_l1Cur_next: function 107 -/
def spec_l1Cur_next.f (s0_0:List Int) (s0_1:Int) (s0_2:Int):Option (Int × Int × Int):=if s0_1<(s0_0.length:Int) then (if 0≤s0_1 then (if (wrap64 (s0_1 + 1))≤(s0_0.length:Int) then (some (wrap64 (rd s0_0 s0_1),wrap64 (s0_1 + 1),IntKind.u64.wrap ((IntKind.u64.wrap ((IntKind.u64.wrap (s0_2 * 6364136223846793005)) + (IntKind.u64.wrap (wrap64 (rd s0_0 s0_1))))) + 462197))) else (some (wrap64 (Go.bits .and .u64 ((IntKind.u64.wrap ((IntKind.u64.wrap ((IntKind.u64.wrap (s0_2 * 6364136223846793005)) + (IntKind.u64.wrap (wrap64 (rd s0_0 s0_1))))) + 462197)) / 1099511627776) 255),wrap64 (s0_1 + 1),IntKind.u64.wrap ((IntKind.u64.wrap ((IntKind.u64.wrap (s0_2 * 6364136223846793005)) + (IntKind.u64.wrap (wrap64 (rd s0_0 s0_1))))) + 462197)))) else (none)) else (if (wrap64 (s0_1 + 1))≤(s0_0.length:Int) then (some (0,wrap64 (s0_1 + 1),IntKind.u64.wrap ((IntKind.u64.wrap (IntKind.u64.wrap (s0_2 * 6364136223846793005))) + 462197))) else (some (wrap64 (Go.bits .and .u64 ((IntKind.u64.wrap ((IntKind.u64.wrap (IntKind.u64.wrap (s0_2 * 6364136223846793005))) + 462197)) / 1099511627776) 255),wrap64 (s0_1 + 1),IntKind.u64.wrap ((IntKind.u64.wrap (IntKind.u64.wrap (s0_2 * 6364136223846793005))) + 462197))))
set_option maxHeartbeats 8000000 in
set_option maxRecDepth 100000 in
theorem spec_l1Cur_next.calls (g:Nat) (s0_0:List Int) (s0_1:Int) (s0_2:Int) (r1:Int) (r2:Int) (r3:Int) (w0 w:World) (hI:IsS45 w0 w g s0_0 s0_1 s0_2) (hB:Below w0.heap.size w0 w) (h:spec_l1Cur_next.f s0_0 s0_1 s0_2=some (r1,r2,r3)) :
  Calls Try.prog 107 #[.pointer (some ⟨g,0,none⟩)] w fun e w'=>e=.returned (.int .i64 r1)∧IsS45 w0 w' g s0_0 r2 r3∧Below w0.heap.size w0 w'∧KeepBut w w' g none:=by
 have HI0:=Aside0.mk hI
 have HK:=Aside0.mk (KeepBut.refl w g none)
 have HL:=Aside0.mk hB.size
 clear hI
 have HW0:=Aside0.mk hB.size
 have HB:=Aside0.mk hB
 clear hB
 have H:(if s0_1<(s0_0.length:Int) then (if 0≤s0_1 then (if (wrap64 (s0_1 + 1))≤(s0_0.length:Int) then (some (wrap64 (rd s0_0 s0_1),wrap64 (s0_1 + 1),IntKind.u64.wrap ((IntKind.u64.wrap ((IntKind.u64.wrap (s0_2 * 6364136223846793005)) + (IntKind.u64.wrap (wrap64 (rd s0_0 s0_1))))) + 462197))) else (some (wrap64 (Go.bits .and .u64 ((IntKind.u64.wrap ((IntKind.u64.wrap ((IntKind.u64.wrap (s0_2 * 6364136223846793005)) + (IntKind.u64.wrap (wrap64 (rd s0_0 s0_1))))) + 462197)) / 1099511627776) 255),wrap64 (s0_1 + 1),IntKind.u64.wrap ((IntKind.u64.wrap ((IntKind.u64.wrap (s0_2 * 6364136223846793005)) + (IntKind.u64.wrap (wrap64 (rd s0_0 s0_1))))) + 462197)))) else (none)) else (if (wrap64 (s0_1 + 1))≤(s0_0.length:Int) then (some (0,wrap64 (s0_1 + 1),IntKind.u64.wrap ((IntKind.u64.wrap (IntKind.u64.wrap (s0_2 * 6364136223846793005))) + 462197))) else (some (wrap64 (Go.bits .and .u64 ((IntKind.u64.wrap ((IntKind.u64.wrap (IntKind.u64.wrap (s0_2 * 6364136223846793005))) + 462197)) / 1099511627776) 255),wrap64 (s0_1 + 1),IntKind.u64.wrap ((IntKind.u64.wrap (IntKind.u64.wrap (s0_2 * 6364136223846793005))) + 462197)))))=some (r1,r2,r3):=h
 clear h
 by_cases c2:s0_1<(s0_0.length:Int)
 rotate_left
 ·rw [if_neg c2] at H
  have c2b0:=decide_eq_false c2
  clear c2
  by_cases c7:(wrap64 (s0_1 + 1))≤(s0_0.length:Int)
  ·rw [if_pos c7] at H
   have c7b0:=decide_eq_true c7
   clear c7
   simp only [Option.some.injEq,Prod.mk.injEq] at H
   obtain ⟨rfl,rfl,rfl⟩:=H
   obtain ⟨ASz8_0,cSz8_0,HGz8,hgz8,HSz8_0⟩:=HI0.out
   have hcz8_0:=cellS45_0 HGz8
   have hcz8_1:=cellS45_1 HGz8
   have hcz8_2:=cellS45_2 HGz8
   have hfz8_1:=blk_frozen HGz8 1
   have hfz8_2:=blk_frozen HGz8 2
   clear HGz8 hgz8
   go_enter Try.func107,Try.ntmps107
   go_wp2
   repeat (go_quiet (fail);try go_wp2)
   go_ret
   exact ⟨zz0,zz2,zz3,zz1⟩
  rw [if_neg c7] at H
  have c7b0:=decide_eq_false c7
  clear c7
  simp only [Option.some.injEq,Prod.mk.injEq] at H
  obtain ⟨rfl,rfl,rfl⟩:=H
  obtain ⟨ASz9_0,cSz9_0,HGz9,hgz9,HSz9_0⟩:=HI0.out
  have hcz9_0:=cellS45_0 HGz9
  have hcz9_1:=cellS45_1 HGz9
  have hcz9_2:=cellS45_2 HGz9
  have hfz9_1:=blk_frozen HGz9 1
  have hfz9_2:=blk_frozen HGz9 2
  clear HGz9 hgz9
  go_enter Try.func107,Try.ntmps107
  go_wp2
  repeat (go_quiet (fail);try go_wp2)
  go_ret
  exact ⟨zz0,zz2,zz3,zz1⟩
 rw [if_pos c2] at H
 have c2b0:=decide_eq_true c2
 clear c2
 by_cases c3:0≤s0_1
 rotate_left
 ·rw [if_neg c3] at H
  exact absurd H (by simp)
 rw [if_pos c3] at H
 have c3b0:=decide_eq_true c3
 clear c3
 by_cases c4:(wrap64 (s0_1 + 1))≤(s0_0.length:Int)
 ·rw [if_pos c4] at H
  have c4b0:=decide_eq_true c4
  clear c4
  simp only [Option.some.injEq,Prod.mk.injEq] at H
  obtain ⟨rfl,rfl,rfl⟩:=H
  obtain ⟨ASz5_0,cSz5_0,HGz5,hgz5,HSz5_0⟩:=HI0.out
  have hcz5_0:=cellS45_0 HGz5
  have hcz5_1:=cellS45_1 HGz5
  have hcz5_2:=cellS45_2 HGz5
  have hfz5_1:=blk_frozen HGz5 1
  have hfz5_2:=blk_frozen HGz5 2
  clear HGz5 hgz5
  have p101:0≤(s0_1:Int):=of_decide_eq_true za
  have q101:s0_1<(s0_0.length:Int):=of_decide_eq_true za
  obtain ⟨ad101,e101,hx101_0⟩:=Kd.at_int HSz5_0 s0_1 p101 q101
  cases e101
  replace hx101_0:=pw_cell_below HB.out hx101_0
  replace p101:=eq_true p101
  replace q101:=eq_true q101
  go_enter Try.func107,Try.ntmps107
  go_wp2
  repeat (go_quiet (fail);try go_wp2)
  go_ret
  exact ⟨zz0,zz2,zz3,zz1⟩
 rw [if_neg c4] at H
 have c4b0:=decide_eq_false c4
 clear c4
 simp only [Option.some.injEq,Prod.mk.injEq] at H
 obtain ⟨rfl,rfl,rfl⟩:=H
 obtain ⟨ASz6_0,cSz6_0,HGz6,hgz6,HSz6_0⟩:=HI0.out
 have hcz6_0:=cellS45_0 HGz6
 have hcz6_1:=cellS45_1 HGz6
 have hcz6_2:=cellS45_2 HGz6
 have hfz6_1:=blk_frozen HGz6 1
 have hfz6_2:=blk_frozen HGz6 2
 clear HGz6 hgz6
 have p101:0≤(s0_1:Int):=of_decide_eq_true za
 have q101:s0_1<(s0_0.length:Int):=of_decide_eq_true za
 obtain ⟨ad101,e101,hx101_0⟩:=Kd.at_int HSz6_0 s0_1 p101 q101
 cases e101
 replace hx101_0:=pw_cell_below HB.out hx101_0
 replace p101:=eq_true p101
 replace q101:=eq_true q101
 go_enter Try.func107,Try.ntmps107
 go_wp2
 repeat (go_quiet (fail);try go_wp2)
 go_ret
 exact ⟨zz0,zz2,zz3,zz1⟩

/-! ### spec_l1Cur_pick: function 94 -/
def spec_l1Cur_pick.f (s0_0:List Int) (s0_1:Int) (s0_2:Int) (a1:Int):Option (Int × Int × Int):=if a1≤1 then (some (0,s0_1,s0_2)) else ((spec_l1Cur_next.f s0_0 s0_1 s0_2).bind fun bt102=>(if a1>200 then ((spec_l1Cur_next.f s0_0 bt102.2.1 bt102.2.2).bind fun bt105=>(if a1=0 then (none) else (some (Int.tmod (wrap64 ((wrap64 (bt102.1 * 256)) + bt105.1)) a1,bt105.2.1,bt105.2.2)))) else (if a1=0 then (none) else (some (Int.tmod bt102.1 a1,bt102.2.1,bt102.2.2)))))
set_option maxHeartbeats 8000000 in
set_option maxRecDepth 100000 in
theorem spec_l1Cur_pick.calls (g:Nat) (s0_0:List Int) (s0_1:Int) (s0_2:Int) (a1:Int) (r1:Int) (r2:Int) (r3:Int) (w0 w:World) (hI:IsS45 w0 w g s0_0 s0_1 s0_2) (hB:Below w0.heap.size w0 w) (h:spec_l1Cur_pick.f s0_0 s0_1 s0_2 a1=some (r1,r2,r3)) :
  Calls Try.prog 94 #[.pointer (some ⟨g,0,none⟩),.int .i64 a1] w fun e w'=>e=.returned (.int .i64 r1)∧IsS45 w0 w' g s0_0 r2 r3∧Below w0.heap.size w0 w'∧KeepBut w w' g none:=by
 have HI0:=Aside0.mk hI
 have HK:=Aside0.mk (KeepBut.refl w g none)
 have HL:=Aside0.mk hB.size
 clear hI
 have HW0:=Aside0.mk hB.size
 have HB:=Aside0.mk hB
 clear hB
 have H:(if a1≤1 then (some (0,s0_1,s0_2)) else ((spec_l1Cur_next.f s0_0 s0_1 s0_2).bind fun bt102=>(if a1>200 then ((spec_l1Cur_next.f s0_0 bt102.2.1 bt102.2.2).bind fun bt105=>(if a1=0 then (none) else (some (Int.tmod (wrap64 ((wrap64 (bt102.1 * 256)) + bt105.1)) a1,bt105.2.1,bt105.2.2)))) else (if a1=0 then (none) else (some (Int.tmod bt102.1 a1,bt102.2.1,bt102.2.2))))))=some (r1,r2,r3):=h
 clear h
 by_cases c3:a1≤1
 ·rw [if_pos c3] at H
  have c3b0:=decide_eq_true c3
  clear c3
  simp only [Option.some.injEq,Prod.mk.injEq] at H
  obtain ⟨rfl,rfl,rfl⟩:=H
  go_enter Try.func94,Try.ntmps94
  go_wp2
  go_ret
  exact ⟨zz0,zz2,zz3,zz1⟩
 rw [if_neg c3] at H
 have c3b0:=decide_eq_false c3
 clear c3
 replace H:=Option.bind_eq_some_iff.mp H
 obtain ⟨⟨t102,t103,t104⟩,A40,H⟩:=H
 try dsimp only at H
 have A4:=Aside0.mk A40
 clear A40
 by_cases c5:a1>200
 rotate_left
 ·rw [if_neg c5] at H
  have c5b0:=decide_eq_false c5
  clear c5
  by_cases c10:a1=0
  ·rw [if_pos c10] at H
   exact absurd H (by simp)
  rw [if_neg c10] at H
  have c10b0:(a1 == 0)=false:=beq_eq_false_iff_ne.mpr c10
  have c10b1:(a1 != 0)=true:=bne_iff_ne.mpr c10
  simp only [Option.some.injEq,Prod.mk.injEq] at H
  obtain ⟨rfl,rfl,rfl⟩:=H
  go_enter Try.func94,Try.ntmps94
  go_wp2_with (first|((with_reducible refine gate_callee (f:=107) rfl ?_);refine zgo 9 Try.func107 #[.pointer (some ⟨g,0,none⟩)] ?_;(with_reducible refine (spec_l1Cur_next.calls g s0_0 s0_1 s0_2 t102 t103 t104 w0 _ ?side1 ?side2 A4.out).mono ?_);(case side1=>exact zz2);(case side2=>exact zz3);rintro e w11 ⟨rfl,hi,hb,hk⟩;refine ⟨_,rfl,?_⟩;replace HK:=Aside0.mk (KeepBut.trans zz1 hk (.inl rfl));replace HB:=Aside0.mk (hb);replace HI0:=Aside0.mk (hi);(try clear hb);(try clear hk);(try clear hi)))
  go_ret
  exact ⟨zz0,zz2,zz3,zz1⟩
 rw [if_pos c5] at H
 have c5b0:=decide_eq_true c5
 clear c5
 replace H:=Option.bind_eq_some_iff.mp H
 obtain ⟨⟨t105,t106,t107⟩,A60,H⟩:=H
 try dsimp only at H
 have A6:=Aside0.mk A60
 clear A60
 by_cases c7:a1=0
 ·rw [if_pos c7] at H
  exact absurd H (by simp)
 rw [if_neg c7] at H
 have c7b0:(a1 == 0)=false:=beq_eq_false_iff_ne.mpr c7
 have c7b1:(a1 != 0)=true:=bne_iff_ne.mpr c7
 simp only [Option.some.injEq,Prod.mk.injEq] at H
 obtain ⟨rfl,rfl,rfl⟩:=H
 go_enter Try.func94,Try.ntmps94
 go_wp2_with (first|((with_reducible refine gate_callee (f:=107) rfl ?_);refine zgo 9 Try.func107 #[.pointer (some ⟨g,0,none⟩)] ?_;(with_reducible refine (spec_l1Cur_next.calls g s0_0 s0_1 s0_2 t102 t103 t104 w0 _ ?side1 ?side2 A4.out).mono ?_);(case side1=>exact zz2);(case side2=>exact zz3);rintro e w8 ⟨rfl,hi,hb,hk⟩;refine ⟨_,rfl,?_⟩;replace HK:=Aside0.mk (KeepBut.trans zz1 hk (.inl rfl));replace HB:=Aside0.mk (hb);replace HI0:=Aside0.mk (hi);(try clear hb);(try clear hk);(try clear hi))|((with_reducible refine gate_callee (f:=107) rfl ?_);refine zgo 15 Try.func107 #[.pointer (some ⟨g,0,none⟩)] ?_;(with_reducible refine (spec_l1Cur_next.calls g s0_0 t103 t104 t105 t106 t107 w0 _ ?side1 ?side2 A6.out).mono ?_);(case side1=>exact zz2);(case side2=>exact zz3);rintro e w9 ⟨rfl,hi,hb,hk⟩;refine ⟨_,rfl,?_⟩;replace HK:=Aside0.mk (KeepBut.trans zz1 hk (.inl rfl));replace HB:=Aside0.mk (hb);replace HI0:=Aside0.mk (hi);(try clear hb);(try clear hk);(try clear hi)))
 go_ret
 exact ⟨zz0,zz2,zz3,zz1⟩

/-! ### spec_l1Cur_one: function 53 -/
def spec_l1Cur_one.f (s0_0:List Int) (s0_1:Int) (s0_2:Int) (a1:Int):Option (Bool × Int × Int):=(spec_l1Cur_pick.f s0_0 s0_1 s0_2 a1).bind fun bt108=>(some ((bt108.1 == 0),bt108.2.1,bt108.2.2))
set_option maxHeartbeats 8000000 in
set_option maxRecDepth 100000 in
theorem spec_l1Cur_one.calls (g:Nat) (s0_0:List Int) (s0_1:Int) (s0_2:Int) (a1:Int) (r1:Bool) (r2:Int) (r3:Int) (w0 w:World) (hI:IsS45 w0 w g s0_0 s0_1 s0_2) (hB:Below w0.heap.size w0 w) (h:spec_l1Cur_one.f s0_0 s0_1 s0_2 a1=some (r1,r2,r3)) :
  Calls Try.prog 53 #[.pointer (some ⟨g,0,none⟩),.int .i64 a1] w fun e w'=>e=.returned (.bool r1)∧IsS45 w0 w' g s0_0 r2 r3∧Below w0.heap.size w0 w'∧KeepBut w w' g none:=by
 have HI0:=Aside0.mk hI
 have HK:=Aside0.mk (KeepBut.refl w g none)
 have HL:=Aside0.mk hB.size
 clear hI
 have HW0:=Aside0.mk hB.size
 have HB:=Aside0.mk hB
 clear hB
 have H:((spec_l1Cur_pick.f s0_0 s0_1 s0_2 a1).bind fun bt108=>(some ((bt108.1 == 0),bt108.2.1,bt108.2.2)))=some (r1,r2,r3):=h
 clear h
 replace H:=Option.bind_eq_some_iff.mp H
 obtain ⟨⟨t108,t109,t110⟩,A30,H⟩:=H
 try dsimp only at H
 have A3:=Aside0.mk A30
 clear A30
 simp only [Option.some.injEq,Prod.mk.injEq] at H
 obtain ⟨rfl,rfl,rfl⟩:=H
 go_enter Try.func53,Try.ntmps53
 go_wp2_with (first|((with_reducible refine gate_callee (f:=94) rfl ?_);refine zgo 7 Try.func94 #[.pointer (some ⟨g,0,none⟩),.int .i64 a1] ?_;(with_reducible refine (spec_l1Cur_pick.calls g s0_0 s0_1 s0_2 a1 t108 t109 t110 w0 _ ?side1 ?side2 A3.out).mono ?_);(case side1=>exact zz2);(case side2=>exact zz3);rintro e w4 ⟨rfl,hi,hb,hk⟩;refine ⟨_,rfl,?_⟩;replace HK:=Aside0.mk (KeepBut.trans zz1 hk (.inl rfl));replace HB:=Aside0.mk (hb);replace HI0:=Aside0.mk (hi);(try clear hb);(try clear hk);(try clear hi)))
 go_ret
 exact ⟨zz0,zz2,zz3,zz1⟩

/-! ### spec_l1Cur_among: function 55 -/
def spec_l1Cur_among.f (s0_0:List Int) (s0_1:Int) (s0_2:Int) (l1:List Int):Option (Int × Int × Int):=(spec_l1Cur_pick.f s0_0 s0_1 s0_2 (l1.length:Int)).bind fun bt111=>(if 0≤bt111.1 then (if bt111.1<(l1.length:Int) then (some (rd l1 bt111.1,bt111.2.1,bt111.2.2)) else (none)) else (none))
set_option maxHeartbeats 8000000 in
set_option maxRecDepth 100000 in
theorem spec_l1Cur_among.calls (g:Nat) (s0_0:List Int) (s0_1:Int) (s0_2:Int) (A1:Option Addr) (c1:Nat) (l1:List Int) (r1:Int) (r2:Int) (r3:Int) (w0 w:World) (hI:IsS45 w0 w g s0_0 s0_1 s0_2) (hB:Below w0.heap.size w0 w) (hr1:Kd.C (Kd.int .i64) w A1 l1.length l1) (hc1:l1.length≤c1) (hf1:∀ ad,A1=some ad→0<l1.length→ad.block≠g) (h:spec_l1Cur_among.f s0_0 s0_1 s0_2 l1=some (r1,r2,r3)) :
  Calls Try.prog 55 #[.pointer (some ⟨g,0,none⟩),.slice A1 l1.length c1] w fun e w'=>e=.returned (.int .i64 r1)∧IsS45 w0 w' g s0_0 r2 r3∧Below w0.heap.size w0 w'∧KeepBut w w' g none:=by
 have HR1:=Aside0.mk hr1
 have HC1:=Aside0.mk hc1
 clear hr1 hc1
 have HI0:=Aside0.mk hI
 have HK:=Aside0.mk (KeepBut.refl w g none)
 have HL:=Aside0.mk hB.size
 clear hI
 have HW0:=Aside0.mk hB.size
 have HB:=Aside0.mk hB
 clear hB
 have H:((spec_l1Cur_pick.f s0_0 s0_1 s0_2 (l1.length:Int)).bind fun bt111=>(if 0≤bt111.1 then (if bt111.1<(l1.length:Int) then (some (rd l1 bt111.1,bt111.2.1,bt111.2.2)) else (none)) else (none)))=some (r1,r2,r3):=h
 clear h
 replace H:=Option.bind_eq_some_iff.mp H
 obtain ⟨⟨t111,t112,t113⟩,A30,H⟩:=H
 try dsimp only at H
 have A3:=Aside0.mk A30
 clear A30
 by_cases c4:0≤t111
 rotate_left
 ·rw [if_neg c4] at H
  exact absurd H (by simp)
 rw [if_pos c4] at H
 have c4b0:=decide_eq_true c4
 clear c4
 by_cases c5:t111<(l1.length:Int)
 rotate_left
 ·rw [if_neg c5] at H
  exact absurd H (by simp)
 rw [if_pos c5] at H
 have c5b0:=decide_eq_true c5
 clear c5
 simp only [Option.some.injEq,Prod.mk.injEq] at H
 obtain ⟨rfl,rfl,rfl⟩:=H
 go_enter Try.func55,Try.ntmps55
 go_wp2_with (first|((with_reducible refine gate_callee (f:=94) rfl ?_);refine zgo 9 Try.func94 #[.pointer (some ⟨g,0,none⟩),.int .i64 (l1.length:Int)] ?_;(with_reducible refine (spec_l1Cur_pick.calls g s0_0 s0_1 s0_2 (l1.length:Int) t111 t112 t113 w0 _ ?side1 ?side2 A3.out).mono ?_);(case side1=>exact zz2);(case side2=>exact zz3);rintro e w6 ⟨rfl,hi,hb,hk⟩;refine ⟨_,rfl,?_⟩;replace HK:=Aside0.mk (KeepBut.trans zz1 hk (.inl rfl));replace HB:=Aside0.mk (hb);replace HI0:=Aside0.mk (hi);(try clear hb);(try clear hk);(try clear hi);have p114:0≤(t111:Int):=of_decide_eq_true za;have q114:t111<(l1.length:Int):=of_decide_eq_true za;obtain ⟨ad114,e114,hx114_0⟩:=Kd.at_int HR1.out t111 p114 q114;cases e114;replace hx114_0:=keep_cell HK.out hx114_0 (by first|(rw [add_block];exact hf1 _ rfl (by omega))|exact hf1 _ rfl (by omega)|exact hf1 ad114 rfl (by omega));replace p114:=eq_true p114;replace q114:=eq_true q114))
 go_ret
 exact ⟨zz0,zz2,zz3,zz1⟩

/-! ### spec_l1Cur_job: function 95 -/
def spec_l1Cur_job.f (s0_0:List Int) (s0_1:Int) (s0_2:Int) (a1:Bool):Option (Int × Int × Int × Int × Int × Int):=(spec_l1Cur_among.f s0_0 s0_1 s0_2 (([1,2,3,4,5,7,9]:List Int))).bind fun bt119=>((spec_l1Cur_among.f s0_0 bt119.2.1 bt119.2.2 (([0,1,1,2,3,5,8]:List Int))).bind fun bt125=>((spec_l1Cur_pick.f s0_0 bt125.2.1 bt125.2.2 24).bind fun bt128=>(if a1=true then ((spec_l1Cur_pick.f s0_0 bt128.2.1 bt128.2.2 12).bind fun bt132=>(some (bt119.1,bt125.1,bt132.1,bt128.1,bt132.2.1,bt132.2.2))) else (some (bt119.1,bt125.1,0,bt128.1,bt128.2.1,bt128.2.2)))))
set_option maxHeartbeats 8000000 in
set_option maxRecDepth 100000 in
theorem spec_l1Cur_job.calls (g:Nat) (s0_0:List Int) (s0_1:Int) (s0_2:Int) (a1:Bool) (r1:Int) (r2:Int) (r3:Int) (r4:Int) (r5:Int) (r6:Int) (w0 w:World) (hI:IsS45 w0 w g s0_0 s0_1 s0_2) (hB:Below w0.heap.size w0 w) (h:spec_l1Cur_job.f s0_0 s0_1 s0_2 a1=some (r1,r2,r3,r4,r5,r6)) :
  Calls Try.prog 95 #[.pointer (some ⟨g,0,none⟩),.bool a1] w fun e w'=>e=.returned (.agg #[.int .i64 r1,.int .i64 r2,.int .i64 r3,.int .i64 r4])∧IsS45 w0 w' g s0_0 r5 r6∧Below w0.heap.size w0 w'∧KeepBut w w' g none:=by
 have hu31:=Try.underlying31
 have HI0:=Aside0.mk hI
 have HK:=Aside0.mk (KeepBut.refl w g none)
 have HL:=Aside0.mk hB.size
 clear hI
 have HW0:=Aside0.mk hB.size
 have HB:=Aside0.mk hB
 clear hB
 have H:((spec_l1Cur_among.f s0_0 s0_1 s0_2 (([1,2,3,4,5,7,9]:List Int))).bind fun bt119=>((spec_l1Cur_among.f s0_0 bt119.2.1 bt119.2.2 (([0,1,1,2,3,5,8]:List Int))).bind fun bt125=>((spec_l1Cur_pick.f s0_0 bt125.2.1 bt125.2.2 24).bind fun bt128=>(if a1=true then ((spec_l1Cur_pick.f s0_0 bt128.2.1 bt128.2.2 12).bind fun bt132=>(some (bt119.1,bt125.1,bt132.1,bt128.1,bt132.2.1,bt132.2.2))) else (some (bt119.1,bt125.1,0,bt128.1,bt128.2.1,bt128.2.2))))))=some (r1,r2,r3,r4,r5,r6):=h
 clear h
 obtain ⟨y116,hy116⟩:∃ y_:List Int,y_=(([1,2,3,4,5,7,9]:List Int)):=⟨_,rfl⟩
 replace H:((spec_l1Cur_among.f s0_0 s0_1 s0_2 y116).bind fun bt119=>((spec_l1Cur_among.f s0_0 bt119.2.1 bt119.2.2 (([0,1,1,2,3,5,8]:List Int))).bind fun bt125=>((spec_l1Cur_pick.f s0_0 bt125.2.1 bt125.2.2 24).bind fun bt128=>(if a1=true then ((spec_l1Cur_pick.f s0_0 bt128.2.1 bt128.2.2 12).bind fun bt132=>(some (bt119.1,bt125.1,bt132.1,bt128.1,bt132.2.1,bt132.2.2))) else (some (bt119.1,bt125.1,0,bt128.1,bt128.2.1,bt128.2.2))))))=some (r1,r2,r3,r4,r5,r6):=by first|(rw [hy116];with_reducible exact H)|(have H2_:=(Option.bind_some _ _).symm.trans H;rw [hy116];with_reducible exact H2_)|(have H2_:=(Option.bind_some _ _).symm.trans H;with_reducible exact H2_)|with_reducible exact H|(rw [hy116];exact H)|exact H
 have Ny116:=Aside0.mk hy116
 clear hy116
 replace H:=Option.bind_eq_some_iff.mp H
 obtain ⟨⟨t119,t120,t121⟩,A30,H⟩:=H
 try dsimp only at H
 have A3:=Aside0.mk A30
 clear A30
 obtain ⟨y122,hy122⟩:∃ y_:List Int,y_=(([0,1,1,2,3,5,8]:List Int)):=⟨_,rfl⟩
 replace H:((spec_l1Cur_among.f s0_0 t120 t121 y122).bind fun bt125=>((spec_l1Cur_pick.f s0_0 bt125.2.1 bt125.2.2 24).bind fun bt128=>(if a1=true then ((spec_l1Cur_pick.f s0_0 bt128.2.1 bt128.2.2 12).bind fun bt132=>(some (t119,bt125.1,bt132.1,bt128.1,bt132.2.1,bt132.2.2))) else (some (t119,bt125.1,0,bt128.1,bt128.2.1,bt128.2.2)))))=some (r1,r2,r3,r4,r5,r6):=by first|(rw [hy122];with_reducible exact H)|(have H2_:=(Option.bind_some _ _).symm.trans H;rw [hy122];with_reducible exact H2_)|(have H2_:=(Option.bind_some _ _).symm.trans H;with_reducible exact H2_)|with_reducible exact H|(rw [hy122];exact H)|exact H
 have Ny122:=Aside0.mk hy122
 clear hy122
 replace H:=Option.bind_eq_some_iff.mp H
 obtain ⟨⟨t125,t126,t127⟩,A40,H⟩:=H
 try dsimp only at H
 have A4:=Aside0.mk A40
 clear A40
 replace H:=Option.bind_eq_some_iff.mp H
 obtain ⟨⟨t128,t129,t130⟩,A50,H⟩:=H
 try dsimp only at H
 have A5:=Aside0.mk A50
 clear A50
 by_cases c6:a1=true
 rotate_left
 ·replace c6:=Bool.eq_false_iff.mpr c6
  subst c6
  rw [if_neg (show ¬ (false=true) by decide)] at H
  simp only [Option.some.injEq,Prod.mk.injEq] at H
  obtain ⟨rfl,rfl,rfl,rfl,rfl,rfl⟩:=H
  go_enter Try.func95,Try.ntmps95
  go_wp2_with (first|((with_reducible refine gate_dst (N:=4) rfl ?_);refine box_event ?hg (N:=4) ?hd (cs:=#[.int .i64 0,.int .i64 0,.int .i64 0,.int .i64 0]) (t:=31) ?hr ?_;(case hd=>rfl);(case hg=>rfl);(case hr=>first|(go_simp;done)|(go_simp;rfl));intro gb115 hg w26 hbox hb;have n0_:=Aside0.mk (IsS45.below zz2 hb);have n1_:=Aside0.mk (KeepBut.trans zz1 (KeepBut.of_below hb g none) (.inl rfl));have n2_:=Aside0.mk (below_step zz3 hb);have n3_:=Aside0.mk (hbox);have n4_:=Aside0.mk ((by rw [hg];exact (keep_size (w:=w) (g:=g) (row:=none) zz1):w.heap.size≤gb115));have n5_:=Aside0.mk ((Nat.le_trans HW0.out (by rw [hg];exact (keep_size (w:=w) (g:=g) (row:=none) zz1):w.heap.size≤gb115):w0.heap.size≤gb115));have n6_:=Aside0.mk ((by rw [hg];exact Nat.ne_of_lt (IsS45.lt (show IsS45 w0 _ g s0_0 s0_1 s0_2 from by repeat (first|(with_reducible first|exact HI0.out|apply IsS45.alloc|apply IsS45.drewN|apply IsS45.drew|apply IsS45.set_1|apply IsS45.set_2)|exact HI0.out))):g≠gb115));have n7_:=Aside0.mk ((by rw [hg];exact Nat.ne_of_gt (IsS45.lt (show IsS45 w0 _ g s0_0 s0_1 s0_2 from by repeat (first|(with_reducible first|exact HI0.out|apply IsS45.alloc|apply IsS45.drewN|apply IsS45.drew|apply IsS45.set_1|apply IsS45.set_2)|exact HI0.out))):gb115≠g));clear HI0;clear HK;clear HB;have HI0:=n0_;have HK:=n1_;have HB:=n2_;have BK115:=n3_;have GW115:=n4_;have GE115:=n5_;have NB0_115:=n6_;have NB115_0:=n7_;clear n0_ n1_ n2_ n3_ n4_ n5_ n6_ n7_;clear hb hbox hg)|((with_reducible refine gate_dst (N:=7) rfl ?_);refine Kd.R_lit (Kd.int .i64) _ 3 ?hg (N:=7) ?hd (xs:=([1,2,3,4,5,7,9]:List Int)) (inner:=[.int .i64 1,.int .i64 2,.int .i64 3,.int .i64 4,.int .i64 5,.int .i64 7,.int .i64 9]) (ok:=fun _=>True) (okp:=fun _=>True) ?hr ?hp (fun _ hk=>hk) trivial (Below.refl _ _) (Nat.le_refl _) (by simp) ?_;(case hd=>rfl);(case hg=>rfl);(case hr=>first|(go_simp;done)|(go_simp;rfl));(case hp=>exact (Reps.one (show Kd.M (Kd.int .i64) _ _ _ 1 [.int .i64 1] from rfl) (Reps.one (show Kd.M (Kd.int .i64) _ _ _ 2 [.int .i64 2] from rfl) (Reps.one (show Kd.M (Kd.int .i64) _ _ _ 3 [.int .i64 3] from rfl) (Reps.one (show Kd.M (Kd.int .i64) _ _ _ 4 [.int .i64 4] from rfl) (Reps.one (show Kd.M (Kd.int .i64) _ _ _ 5 [.int .i64 5] from rfl) (Reps.one (show Kd.M (Kd.int .i64) _ _ _ 7 [.int .i64 7] from rfl) (Reps.one (show Kd.M (Kd.int .i64) _ _ _ 9 [.int .i64 9] from rfl) (Reps.none _ _)))))))));intro v117 w27 ho28 hb hg_ hnew_;clear hg_ hnew_;(first|rw [←Ny116.out] at ho28|(simp only [Int.reduceToNat] at ho28;rw [←Ny116.out] at ho28));have n0_:=Aside0.mk (Kd.R_lower ho28 (keep_size (w:=w) (g:=g) (row:=none) zz9));have n1_:=Aside0.mk (IsS45.below zz15 hb);have n2_:=Aside0.mk (blk_below (g:=gb115) (o:=.cells #[.int .i64 0,.int .i64 0,.int .i64 0,.int .i64 0] 31 (0,0)) zz11 hb);have n3_:=Aside0.mk (KeepBut.trans zz9 (KeepBut.of_below hb g none) (.inl rfl));have n4_:=Aside0.mk (below_step zz16 hb);clear HI0;clear BK115;clear HK;clear HB;have HO118:=n0_;have HI0:=n1_;have BK115:=n2_;have HK:=n3_;have HB:=n4_;clear n0_ n1_ n2_ n3_ n4_;clear hb ho28;obtain ⟨Ao29,co29,eo29⟩:=Kd.R_slice HO118.out;subst eo29)|((with_reducible refine gate_callee (f:=55) rfl ?_);refine zgo 8 Try.func55 #[.pointer (some ⟨g,0,none⟩),.slice Ao29 y116.length co29] ?_;(with_reducible refine (spec_l1Cur_among.calls g s0_0 s0_1 s0_2 _ _ y116 t119 t120 t121 w0 _ ?side1 ?side2 ?side3 ?side4 ?side5 A3.out).mono ?_);(case side1=>exact zz15);(case side2=>exact zz16);(case side3=>exact zC ((Kd.R_reads' HO118.out).2.2));(case side4=>exact (Kd.R_reads' HO118.out).2.1);(case side5=>exact far_slice (IsS45.own_ne HI0.out HO118.out (by decide)));rintro e w30 ⟨rfl,hi,hb,hk⟩;refine ⟨_,rfl,?_⟩;replace BK115:=Aside0.mk (KeepBut.blk hk (g':=gb115) (o:=.cells #[.int .i64 0,.int .i64 0,.int .i64 0,.int .i64 0] 31 (0,0)) zz11 NB115_0.out (by simp));replace HO118:=Aside0.mk (Kd.R_mono (Kd.R_keep (IsS45.apart (show IsS45 w0 _ g s0_0 s0_1 s0_2 from by repeat (first|(with_reducible first|exact HI0.out|apply IsS45.alloc|apply IsS45.drewN|apply IsS45.drew|apply IsS45.set_1|apply IsS45.set_2|refine IsS45.far ?_ NB0_115.out _)|exact HI0.out)) (zR HO118.out) (by decide)) hk (fun _ h=>h.2)) (fun _ h=>h.1));replace HK:=Aside0.mk (KeepBut.trans zz9 hk (.inl rfl));replace HB:=Aside0.mk (hb);replace HI0:=Aside0.mk (hi);(try clear hb);(try clear hk);(try clear hi))|((with_reducible refine gate_dst (N:=10) rfl ?_);refine Kd.R_lit (Kd.int .i64) _ 3 ?hg (N:=10) ?hd (xs:=([0,1,1,2,3,5,8]:List Int)) (inner:=[.int .i64 0,.int .i64 1,.int .i64 1,.int .i64 2,.int .i64 3,.int .i64 5,.int .i64 8]) (ok:=fun _=>True) (okp:=fun _=>True) ?hr ?hp (fun _ hk=>hk) trivial (Below.refl _ _) (Nat.le_refl _) (by simp) ?_;(case hd=>rfl);(case hg=>rfl);(case hr=>first|(go_simp;done)|(go_simp;rfl));(case hp=>exact (Reps.one (show Kd.M (Kd.int .i64) _ _ _ 0 [.int .i64 0] from rfl) (Reps.one (show Kd.M (Kd.int .i64) _ _ _ 1 [.int .i64 1] from rfl) (Reps.one (show Kd.M (Kd.int .i64) _ _ _ 1 [.int .i64 1] from rfl) (Reps.one (show Kd.M (Kd.int .i64) _ _ _ 2 [.int .i64 2] from rfl) (Reps.one (show Kd.M (Kd.int .i64) _ _ _ 3 [.int .i64 3] from rfl) (Reps.one (show Kd.M (Kd.int .i64) _ _ _ 5 [.int .i64 5] from rfl) (Reps.one (show Kd.M (Kd.int .i64) _ _ _ 8 [.int .i64 8] from rfl) (Reps.none _ _)))))))));intro v123 w31 ho32 hb hg_ hnew_;clear hg_ hnew_;(first|rw [←Ny122.out] at ho32|(simp only [Int.reduceToNat] at ho32;rw [←Ny122.out] at ho32));have n0_:=Aside0.mk (Kd.R_elder' (zR HO118.out) (Kd.R_base ho32) hb);have n1_:=Aside0.mk (Kd.R_lower (Kd.R_new' ho32 (Kd.R_lt (zR HO118.out))) (keep_size (w:=w) (g:=g) (row:=none) zz9));have n2_:=Aside0.mk (IsS45.below zz15 hb);have n3_:=Aside0.mk (blk_below (g:=gb115) (o:=.cells #[.int .i64 0,.int .i64 0,.int .i64 0,.int .i64 0] 31 (0,0)) zz11 hb);have n4_:=Aside0.mk (KeepBut.trans zz9 (KeepBut.of_below hb g none) (.inl rfl));have n5_:=Aside0.mk (below_step zz16 hb);clear HO118;clear HI0;clear BK115;clear HK;clear HB;have HO118:=n0_;have HO124:=n1_;have HI0:=n2_;have BK115:=n3_;have HK:=n4_;have HB:=n5_;clear n0_ n1_ n2_ n3_ n4_ n5_;clear hb ho32;obtain ⟨Ao33,co33,eo33⟩:=Kd.R_slice HO124.out;subst eo33)|((with_reducible refine gate_callee (f:=55) rfl ?_);refine zgo 11 Try.func55 #[.pointer (some ⟨g,0,none⟩),.slice Ao33 y122.length co33] ?_;(with_reducible refine (spec_l1Cur_among.calls g s0_0 t120 t121 _ _ y122 t125 t126 t127 w0 _ ?side1 ?side2 ?side3 ?side4 ?side5 A4.out).mono ?_);(case side1=>exact zz15);(case side2=>exact zz16);(case side3=>exact zC ((Kd.R_reads' HO124.out).2.2));(case side4=>exact (Kd.R_reads' HO124.out).2.1);(case side5=>exact far_slice (IsS45.own_ne HI0.out HO124.out (by decide)));rintro e w34 ⟨rfl,hi,hb,hk⟩;refine ⟨_,rfl,?_⟩;replace BK115:=Aside0.mk (KeepBut.blk hk (g':=gb115) (o:=.cells #[.int .i64 0,.int .i64 0,.int .i64 0,.int .i64 0] 31 (0,0)) zz11 NB115_0.out (by simp));replace HO118:=Aside0.mk (Kd.R_mono (Kd.R_keep (IsS45.apart (show IsS45 w0 _ g s0_0 t120 t121 from by repeat (first|(with_reducible first|exact HI0.out|apply IsS45.alloc|apply IsS45.drewN|apply IsS45.drew|apply IsS45.set_1|apply IsS45.set_2|refine IsS45.far ?_ NB0_115.out _)|exact HI0.out)) (zR HO118.out) (by decide)) hk (fun _ h=>h.2)) (fun _ h=>h.1));replace HO124:=Aside0.mk (Kd.R_mono (Kd.R_keep (IsS45.apart (show IsS45 w0 _ g s0_0 t120 t121 from by repeat (first|(with_reducible first|exact HI0.out|apply IsS45.alloc|apply IsS45.drewN|apply IsS45.drew|apply IsS45.set_1|apply IsS45.set_2|refine IsS45.far ?_ NB0_115.out _)|exact HI0.out)) (zR HO124.out) (by decide)) hk (fun _ h=>h.2)) (fun _ h=>h.1));replace HK:=Aside0.mk (KeepBut.trans zz9 hk (.inl rfl));replace HB:=Aside0.mk (hb);replace HI0:=Aside0.mk (hi);(try clear hb);(try clear hk);(try clear hi))|((with_reducible refine gate_callee (f:=94) rfl ?_);refine zgo 13 Try.func94 #[.pointer (some ⟨g,0,none⟩),.int .i64 24] ?_;(with_reducible refine (spec_l1Cur_pick.calls g s0_0 t126 t127 24 t128 t129 t130 w0 _ ?side1 ?side2 A5.out).mono ?_);(case side1=>exact zz15);(case side2=>exact zz16);rintro e w35 ⟨rfl,hi,hb,hk⟩;refine ⟨_,rfl,?_⟩;replace BK115:=Aside0.mk (KeepBut.blk hk (g':=gb115) (o:=.cells #[.int .i64 0,.int .i64 0,.int .i64 0,.int .i64 0] 31 (0,0)) zz11 NB115_0.out (by simp));replace HO118:=Aside0.mk (Kd.R_mono (Kd.R_keep (IsS45.apart (show IsS45 w0 _ g s0_0 t126 t127 from by repeat (first|(with_reducible first|exact HI0.out|apply IsS45.alloc|apply IsS45.drewN|apply IsS45.drew|apply IsS45.set_1|apply IsS45.set_2|refine IsS45.far ?_ NB0_115.out _)|exact HI0.out)) (zR HO118.out) (by decide)) hk (fun _ h=>h.2)) (fun _ h=>h.1));replace HO124:=Aside0.mk (Kd.R_mono (Kd.R_keep (IsS45.apart (show IsS45 w0 _ g s0_0 t126 t127 from by repeat (first|(with_reducible first|exact HI0.out|apply IsS45.alloc|apply IsS45.drewN|apply IsS45.drew|apply IsS45.set_1|apply IsS45.set_2|refine IsS45.far ?_ NB0_115.out _)|exact HI0.out)) (zR HO124.out) (by decide)) hk (fun _ h=>h.2)) (fun _ h=>h.1));replace HK:=Aside0.mk (KeepBut.trans zz9 hk (.inl rfl));replace HB:=Aside0.mk (hb);replace HI0:=Aside0.mk (hi);(try clear hb);(try clear hk);(try clear hi))|((with_reducible refine gate_dst (N:=5) rfl ?_);refine box_event ?hg (N:=5) ?hd (cs:=#[.int .i64 0,.int .i64 0,.int .i64 0,.int .i64 0]) (t:=31) ?hr ?_;(case hd=>rfl);(case hg=>rfl);(case hr=>first|(go_simp;done)|(go_simp;rfl));intro gb131 hg w36 hbox hb;have n0_:=zRb HO118 hb;have n1_:=zRb HO124 hb;have n2_:=Aside0.mk (IsS45.below zz15 hb);have n3_:=Aside0.mk (blk_below (g:=gb115) (o:=.cells #[.int .i64 0,.int .i64 0,.int .i64 0,.int .i64 0] 31 (0,0)) zz11 hb);have n4_:=Aside0.mk (KeepBut.trans zz9 (KeepBut.of_below hb g none) (.inl rfl));have n5_:=Aside0.mk (below_step zz16 hb);have n6_:=Aside0.mk (hbox);have n7_:=Aside0.mk ((by rw [hg];exact (keep_size (w:=w) (g:=g) (row:=none) zz9):w.heap.size≤gb131));have n8_:=Aside0.mk ((Nat.le_trans HW0.out (by rw [hg];exact (keep_size (w:=w) (g:=g) (row:=none) zz9):w.heap.size≤gb131):w0.heap.size≤gb131));have n9_:=Aside0.mk ((by rw [hg];exact Nat.ne_of_lt (blk_lt (g:=gb115) (o:=.cells #[.int .i64 0,.int .i64 0,.int .i64 0,.int .i64 0] 31 (0,0)) zz11):gb115≠gb131));have n10_:=Aside0.mk ((by rw [hg];exact Nat.ne_of_gt (blk_lt (g:=gb115) (o:=.cells #[.int .i64 0,.int .i64 0,.int .i64 0,.int .i64 0] 31 (0,0)) zz11):gb131≠gb115));have n11_:=Aside0.mk ((by rw [hg];exact Nat.ne_of_lt (IsS45.lt (show IsS45 w0 _ g s0_0 t129 t130 from by repeat (first|(with_reducible first|exact HI0.out|apply IsS45.alloc|apply IsS45.drewN|apply IsS45.drew|apply IsS45.set_1|apply IsS45.set_2|refine IsS45.far ?_ NB0_115.out _)|exact HI0.out))):g≠gb131));have n12_:=Aside0.mk ((by rw [hg];exact Nat.ne_of_gt (IsS45.lt (show IsS45 w0 _ g s0_0 t129 t130 from by repeat (first|(with_reducible first|exact HI0.out|apply IsS45.alloc|apply IsS45.drewN|apply IsS45.drew|apply IsS45.set_1|apply IsS45.set_2|refine IsS45.far ?_ NB0_115.out _)|exact HI0.out))):gb131≠g));clear HO118;clear HO124;clear HI0;clear BK115;clear HK;clear HB;have HO118:=n0_;have HO124:=n1_;have HI0:=n2_;have BK115:=n3_;have HK:=n4_;have HB:=n5_;have BK131:=n6_;have GW131:=n7_;have GE131:=n8_;have NB115_131:=n9_;have NB131_115:=n10_;have NB0_131:=n11_;have NB131_0:=n12_;clear n0_ n1_ n2_ n3_ n4_ n5_ n6_ n7_ n8_ n9_ n10_ n11_ n12_;clear hb hbox hg;have hnb37:=NB131_115.out;have hnc37:=NB115_131.out;have hnb38:=NB131_0.out;have hnc38:=NB0_131.out;obtain ⟨hcz39_0,hcz39_1,hcz39_2,hcz39_3,hfz39_0,hfz39_1,hfz39_2,hfz39_3⟩:=zk4 BK131.out;have hnb40:=NB115_0.out;have hnc40:=NB0_115.out;obtain ⟨hcz41_0,hcz41_1,hcz41_2,hcz41_3,hfz41_0,hfz41_1,hfz41_2,hfz41_3⟩:=zk4 BK115.out))
  refine bodyPost_ret (results_cell_row rfl _ _ gb115 31 #[.int .i64 t119,.int .i64 t125,.int .i64 0,.int .i64 t128] (0,0) _ rfl (by (with_reducible repeat (first|refine blk_drewN ?_ _|refine blk_drew ?_|refine blk_alloc ?_ _));refine blk_put (cs:=#[.int .i64 t119,.int .i64 t125,.int .i64 0,.int .i64 0]) ?_ 3 _ rfl;(with_reducible repeat (first|refine blk_drewN ?_ _|refine blk_drew ?_|refine blk_alloc ?_ _));refine blk_put (cs:=#[.int .i64 t119,.int .i64 t125,.int .i64 0,.int .i64 0]) ?_ 2 _ rfl;(with_reducible repeat (first|refine blk_drewN ?_ _|refine blk_drew ?_|refine blk_alloc ?_ _));refine blk_put (cs:=#[.int .i64 t119,.int .i64 0,.int .i64 0,.int .i64 0]) ?_ 1 _ rfl;(with_reducible repeat (first|refine blk_drewN ?_ _|refine blk_drew ?_|refine blk_alloc ?_ _));refine blk_put (cs:=#[.int .i64 0,.int .i64 0,.int .i64 0,.int .i64 0]) ?_ 0 _ rfl;(with_reducible repeat (first|refine blk_drewN ?_ _|refine blk_drew ?_|refine blk_alloc ?_ _));refine blk_far ?_ NB115_131.out _;(with_reducible repeat (first|refine blk_drewN ?_ _|refine blk_drew ?_|refine blk_alloc ?_ _));refine blk_far ?_ NB115_131.out _;(with_reducible repeat (first|refine blk_drewN ?_ _|refine blk_drew ?_|refine blk_alloc ?_ _));refine blk_far ?_ NB115_131.out _;(with_reducible repeat (first|refine blk_drewN ?_ _|refine blk_drew ?_|refine blk_alloc ?_ _));refine blk_far ?_ NB115_131.out _;(with_reducible repeat (first|refine blk_drewN ?_ _|refine blk_drew ?_|refine blk_alloc ?_ _));exact BK115.out) Try.underlying31 rfl (by kernel_rfl)) rfl ?_
  exact ⟨zz0,zz38,zz39,zz40⟩
 subst c6
 rw [if_pos rfl] at H
 replace H:=Option.bind_eq_some_iff.mp H
 obtain ⟨⟨t132,t133,t134⟩,A70,H⟩:=H
 try dsimp only at H
 have A7:=Aside0.mk A70
 clear A70
 simp only [Option.some.injEq,Prod.mk.injEq] at H
 obtain ⟨rfl,rfl,rfl,rfl,rfl,rfl⟩:=H
 go_enter Try.func95,Try.ntmps95
 go_wp2_with (first|((with_reducible refine gate_dst (N:=4) rfl ?_);refine box_event ?hg (N:=4) ?hd (cs:=#[.int .i64 0,.int .i64 0,.int .i64 0,.int .i64 0]) (t:=31) ?hr ?_;(case hd=>rfl);(case hg=>rfl);(case hr=>first|(go_simp;done)|(go_simp;rfl));intro gb115 hg w8 hbox hb;have n0_:=Aside0.mk (IsS45.below zz2 hb);have n1_:=Aside0.mk (KeepBut.trans zz1 (KeepBut.of_below hb g none) (.inl rfl));have n2_:=Aside0.mk (below_step zz3 hb);have n3_:=Aside0.mk (hbox);have n4_:=Aside0.mk ((by rw [hg];exact (keep_size (w:=w) (g:=g) (row:=none) zz1):w.heap.size≤gb115));have n5_:=Aside0.mk ((Nat.le_trans HW0.out (by rw [hg];exact (keep_size (w:=w) (g:=g) (row:=none) zz1):w.heap.size≤gb115):w0.heap.size≤gb115));have n6_:=Aside0.mk ((by rw [hg];exact Nat.ne_of_lt (IsS45.lt (show IsS45 w0 _ g s0_0 s0_1 s0_2 from by repeat (first|(with_reducible first|exact HI0.out|apply IsS45.alloc|apply IsS45.drewN|apply IsS45.drew|apply IsS45.set_1|apply IsS45.set_2)|exact HI0.out))):g≠gb115));have n7_:=Aside0.mk ((by rw [hg];exact Nat.ne_of_gt (IsS45.lt (show IsS45 w0 _ g s0_0 s0_1 s0_2 from by repeat (first|(with_reducible first|exact HI0.out|apply IsS45.alloc|apply IsS45.drewN|apply IsS45.drew|apply IsS45.set_1|apply IsS45.set_2)|exact HI0.out))):gb115≠g));clear HI0;clear HK;clear HB;have HI0:=n0_;have HK:=n1_;have HB:=n2_;have BK115:=n3_;have GW115:=n4_;have GE115:=n5_;have NB0_115:=n6_;have NB115_0:=n7_;clear n0_ n1_ n2_ n3_ n4_ n5_ n6_ n7_;clear hb hbox hg)|((with_reducible refine gate_dst (N:=7) rfl ?_);refine Kd.R_lit (Kd.int .i64) _ 3 ?hg (N:=7) ?hd (xs:=([1,2,3,4,5,7,9]:List Int)) (inner:=[.int .i64 1,.int .i64 2,.int .i64 3,.int .i64 4,.int .i64 5,.int .i64 7,.int .i64 9]) (ok:=fun _=>True) (okp:=fun _=>True) ?hr ?hp (fun _ hk=>hk) trivial (Below.refl _ _) (Nat.le_refl _) (by simp) ?_;(case hd=>rfl);(case hg=>rfl);(case hr=>first|(go_simp;done)|(go_simp;rfl));(case hp=>exact (Reps.one (show Kd.M (Kd.int .i64) _ _ _ 1 [.int .i64 1] from rfl) (Reps.one (show Kd.M (Kd.int .i64) _ _ _ 2 [.int .i64 2] from rfl) (Reps.one (show Kd.M (Kd.int .i64) _ _ _ 3 [.int .i64 3] from rfl) (Reps.one (show Kd.M (Kd.int .i64) _ _ _ 4 [.int .i64 4] from rfl) (Reps.one (show Kd.M (Kd.int .i64) _ _ _ 5 [.int .i64 5] from rfl) (Reps.one (show Kd.M (Kd.int .i64) _ _ _ 7 [.int .i64 7] from rfl) (Reps.one (show Kd.M (Kd.int .i64) _ _ _ 9 [.int .i64 9] from rfl) (Reps.none _ _)))))))));intro v117 w9 ho10 hb hg_ hnew_;clear hg_ hnew_;(first|rw [←Ny116.out] at ho10|(simp only [Int.reduceToNat] at ho10;rw [←Ny116.out] at ho10));have n0_:=Aside0.mk (Kd.R_lower ho10 (keep_size (w:=w) (g:=g) (row:=none) zz9));have n1_:=Aside0.mk (IsS45.below zz15 hb);have n2_:=Aside0.mk (blk_below (g:=gb115) (o:=.cells #[.int .i64 0,.int .i64 0,.int .i64 0,.int .i64 0] 31 (0,0)) zz11 hb);have n3_:=Aside0.mk (KeepBut.trans zz9 (KeepBut.of_below hb g none) (.inl rfl));have n4_:=Aside0.mk (below_step zz16 hb);clear HI0;clear BK115;clear HK;clear HB;have HO118:=n0_;have HI0:=n1_;have BK115:=n2_;have HK:=n3_;have HB:=n4_;clear n0_ n1_ n2_ n3_ n4_;clear hb ho10;obtain ⟨Ao11,co11,eo11⟩:=Kd.R_slice HO118.out;subst eo11)|((with_reducible refine gate_callee (f:=55) rfl ?_);refine zgo 8 Try.func55 #[.pointer (some ⟨g,0,none⟩),.slice Ao11 y116.length co11] ?_;(with_reducible refine (spec_l1Cur_among.calls g s0_0 s0_1 s0_2 _ _ y116 t119 t120 t121 w0 _ ?side1 ?side2 ?side3 ?side4 ?side5 A3.out).mono ?_);(case side1=>exact zz15);(case side2=>exact zz16);(case side3=>exact zC ((Kd.R_reads' HO118.out).2.2));(case side4=>exact (Kd.R_reads' HO118.out).2.1);(case side5=>exact far_slice (IsS45.own_ne HI0.out HO118.out (by decide)));rintro e w12 ⟨rfl,hi,hb,hk⟩;refine ⟨_,rfl,?_⟩;replace BK115:=Aside0.mk (KeepBut.blk hk (g':=gb115) (o:=.cells #[.int .i64 0,.int .i64 0,.int .i64 0,.int .i64 0] 31 (0,0)) zz11 NB115_0.out (by simp));replace HO118:=Aside0.mk (Kd.R_mono (Kd.R_keep (IsS45.apart (show IsS45 w0 _ g s0_0 s0_1 s0_2 from by repeat (first|(with_reducible first|exact HI0.out|apply IsS45.alloc|apply IsS45.drewN|apply IsS45.drew|apply IsS45.set_1|apply IsS45.set_2|refine IsS45.far ?_ NB0_115.out _)|exact HI0.out)) (zR HO118.out) (by decide)) hk (fun _ h=>h.2)) (fun _ h=>h.1));replace HK:=Aside0.mk (KeepBut.trans zz9 hk (.inl rfl));replace HB:=Aside0.mk (hb);replace HI0:=Aside0.mk (hi);(try clear hb);(try clear hk);(try clear hi))|((with_reducible refine gate_dst (N:=10) rfl ?_);refine Kd.R_lit (Kd.int .i64) _ 3 ?hg (N:=10) ?hd (xs:=([0,1,1,2,3,5,8]:List Int)) (inner:=[.int .i64 0,.int .i64 1,.int .i64 1,.int .i64 2,.int .i64 3,.int .i64 5,.int .i64 8]) (ok:=fun _=>True) (okp:=fun _=>True) ?hr ?hp (fun _ hk=>hk) trivial (Below.refl _ _) (Nat.le_refl _) (by simp) ?_;(case hd=>rfl);(case hg=>rfl);(case hr=>first|(go_simp;done)|(go_simp;rfl));(case hp=>exact (Reps.one (show Kd.M (Kd.int .i64) _ _ _ 0 [.int .i64 0] from rfl) (Reps.one (show Kd.M (Kd.int .i64) _ _ _ 1 [.int .i64 1] from rfl) (Reps.one (show Kd.M (Kd.int .i64) _ _ _ 1 [.int .i64 1] from rfl) (Reps.one (show Kd.M (Kd.int .i64) _ _ _ 2 [.int .i64 2] from rfl) (Reps.one (show Kd.M (Kd.int .i64) _ _ _ 3 [.int .i64 3] from rfl) (Reps.one (show Kd.M (Kd.int .i64) _ _ _ 5 [.int .i64 5] from rfl) (Reps.one (show Kd.M (Kd.int .i64) _ _ _ 8 [.int .i64 8] from rfl) (Reps.none _ _)))))))));intro v123 w13 ho14 hb hg_ hnew_;clear hg_ hnew_;(first|rw [←Ny122.out] at ho14|(simp only [Int.reduceToNat] at ho14;rw [←Ny122.out] at ho14));have n0_:=Aside0.mk (Kd.R_elder' (zR HO118.out) (Kd.R_base ho14) hb);have n1_:=Aside0.mk (Kd.R_lower (Kd.R_new' ho14 (Kd.R_lt (zR HO118.out))) (keep_size (w:=w) (g:=g) (row:=none) zz9));have n2_:=Aside0.mk (IsS45.below zz15 hb);have n3_:=Aside0.mk (blk_below (g:=gb115) (o:=.cells #[.int .i64 0,.int .i64 0,.int .i64 0,.int .i64 0] 31 (0,0)) zz11 hb);have n4_:=Aside0.mk (KeepBut.trans zz9 (KeepBut.of_below hb g none) (.inl rfl));have n5_:=Aside0.mk (below_step zz16 hb);clear HO118;clear HI0;clear BK115;clear HK;clear HB;have HO118:=n0_;have HO124:=n1_;have HI0:=n2_;have BK115:=n3_;have HK:=n4_;have HB:=n5_;clear n0_ n1_ n2_ n3_ n4_ n5_;clear hb ho14;obtain ⟨Ao15,co15,eo15⟩:=Kd.R_slice HO124.out;subst eo15)|((with_reducible refine gate_callee (f:=55) rfl ?_);refine zgo 11 Try.func55 #[.pointer (some ⟨g,0,none⟩),.slice Ao15 y122.length co15] ?_;(with_reducible refine (spec_l1Cur_among.calls g s0_0 t120 t121 _ _ y122 t125 t126 t127 w0 _ ?side1 ?side2 ?side3 ?side4 ?side5 A4.out).mono ?_);(case side1=>exact zz15);(case side2=>exact zz16);(case side3=>exact zC ((Kd.R_reads' HO124.out).2.2));(case side4=>exact (Kd.R_reads' HO124.out).2.1);(case side5=>exact far_slice (IsS45.own_ne HI0.out HO124.out (by decide)));rintro e w16 ⟨rfl,hi,hb,hk⟩;refine ⟨_,rfl,?_⟩;replace BK115:=Aside0.mk (KeepBut.blk hk (g':=gb115) (o:=.cells #[.int .i64 0,.int .i64 0,.int .i64 0,.int .i64 0] 31 (0,0)) zz11 NB115_0.out (by simp));replace HO118:=Aside0.mk (Kd.R_mono (Kd.R_keep (IsS45.apart (show IsS45 w0 _ g s0_0 t120 t121 from by repeat (first|(with_reducible first|exact HI0.out|apply IsS45.alloc|apply IsS45.drewN|apply IsS45.drew|apply IsS45.set_1|apply IsS45.set_2|refine IsS45.far ?_ NB0_115.out _)|exact HI0.out)) (zR HO118.out) (by decide)) hk (fun _ h=>h.2)) (fun _ h=>h.1));replace HO124:=Aside0.mk (Kd.R_mono (Kd.R_keep (IsS45.apart (show IsS45 w0 _ g s0_0 t120 t121 from by repeat (first|(with_reducible first|exact HI0.out|apply IsS45.alloc|apply IsS45.drewN|apply IsS45.drew|apply IsS45.set_1|apply IsS45.set_2|refine IsS45.far ?_ NB0_115.out _)|exact HI0.out)) (zR HO124.out) (by decide)) hk (fun _ h=>h.2)) (fun _ h=>h.1));replace HK:=Aside0.mk (KeepBut.trans zz9 hk (.inl rfl));replace HB:=Aside0.mk (hb);replace HI0:=Aside0.mk (hi);(try clear hb);(try clear hk);(try clear hi))|((with_reducible refine gate_callee (f:=94) rfl ?_);refine zgo 13 Try.func94 #[.pointer (some ⟨g,0,none⟩),.int .i64 24] ?_;(with_reducible refine (spec_l1Cur_pick.calls g s0_0 t126 t127 24 t128 t129 t130 w0 _ ?side1 ?side2 A5.out).mono ?_);(case side1=>exact zz15);(case side2=>exact zz16);rintro e w17 ⟨rfl,hi,hb,hk⟩;refine ⟨_,rfl,?_⟩;replace BK115:=Aside0.mk (KeepBut.blk hk (g':=gb115) (o:=.cells #[.int .i64 0,.int .i64 0,.int .i64 0,.int .i64 0] 31 (0,0)) zz11 NB115_0.out (by simp));replace HO118:=Aside0.mk (Kd.R_mono (Kd.R_keep (IsS45.apart (show IsS45 w0 _ g s0_0 t126 t127 from by repeat (first|(with_reducible first|exact HI0.out|apply IsS45.alloc|apply IsS45.drewN|apply IsS45.drew|apply IsS45.set_1|apply IsS45.set_2|refine IsS45.far ?_ NB0_115.out _)|exact HI0.out)) (zR HO118.out) (by decide)) hk (fun _ h=>h.2)) (fun _ h=>h.1));replace HO124:=Aside0.mk (Kd.R_mono (Kd.R_keep (IsS45.apart (show IsS45 w0 _ g s0_0 t126 t127 from by repeat (first|(with_reducible first|exact HI0.out|apply IsS45.alloc|apply IsS45.drewN|apply IsS45.drew|apply IsS45.set_1|apply IsS45.set_2|refine IsS45.far ?_ NB0_115.out _)|exact HI0.out)) (zR HO124.out) (by decide)) hk (fun _ h=>h.2)) (fun _ h=>h.1));replace HK:=Aside0.mk (KeepBut.trans zz9 hk (.inl rfl));replace HB:=Aside0.mk (hb);replace HI0:=Aside0.mk (hi);(try clear hb);(try clear hk);(try clear hi))|((with_reducible refine gate_dst (N:=5) rfl ?_);refine box_event ?hg (N:=5) ?hd (cs:=#[.int .i64 0,.int .i64 0,.int .i64 0,.int .i64 0]) (t:=31) ?hr ?_;(case hd=>rfl);(case hg=>rfl);(case hr=>first|(go_simp;done)|(go_simp;rfl));intro gb131 hg w18 hbox hb;have n0_:=zRb HO118 hb;have n1_:=zRb HO124 hb;have n2_:=Aside0.mk (IsS45.below zz15 hb);have n3_:=Aside0.mk (blk_below (g:=gb115) (o:=.cells #[.int .i64 0,.int .i64 0,.int .i64 0,.int .i64 0] 31 (0,0)) zz11 hb);have n4_:=Aside0.mk (KeepBut.trans zz9 (KeepBut.of_below hb g none) (.inl rfl));have n5_:=Aside0.mk (below_step zz16 hb);have n6_:=Aside0.mk (hbox);have n7_:=Aside0.mk ((by rw [hg];exact (keep_size (w:=w) (g:=g) (row:=none) zz9):w.heap.size≤gb131));have n8_:=Aside0.mk ((Nat.le_trans HW0.out (by rw [hg];exact (keep_size (w:=w) (g:=g) (row:=none) zz9):w.heap.size≤gb131):w0.heap.size≤gb131));have n9_:=Aside0.mk ((by rw [hg];exact Nat.ne_of_lt (blk_lt (g:=gb115) (o:=.cells #[.int .i64 0,.int .i64 0,.int .i64 0,.int .i64 0] 31 (0,0)) zz11):gb115≠gb131));have n10_:=Aside0.mk ((by rw [hg];exact Nat.ne_of_gt (blk_lt (g:=gb115) (o:=.cells #[.int .i64 0,.int .i64 0,.int .i64 0,.int .i64 0] 31 (0,0)) zz11):gb131≠gb115));have n11_:=Aside0.mk ((by rw [hg];exact Nat.ne_of_lt (IsS45.lt (show IsS45 w0 _ g s0_0 t129 t130 from by repeat (first|(with_reducible first|exact HI0.out|apply IsS45.alloc|apply IsS45.drewN|apply IsS45.drew|apply IsS45.set_1|apply IsS45.set_2|refine IsS45.far ?_ NB0_115.out _)|exact HI0.out))):g≠gb131));have n12_:=Aside0.mk ((by rw [hg];exact Nat.ne_of_gt (IsS45.lt (show IsS45 w0 _ g s0_0 t129 t130 from by repeat (first|(with_reducible first|exact HI0.out|apply IsS45.alloc|apply IsS45.drewN|apply IsS45.drew|apply IsS45.set_1|apply IsS45.set_2|refine IsS45.far ?_ NB0_115.out _)|exact HI0.out))):gb131≠g));clear HO118;clear HO124;clear HI0;clear BK115;clear HK;clear HB;have HO118:=n0_;have HO124:=n1_;have HI0:=n2_;have BK115:=n3_;have HK:=n4_;have HB:=n5_;have BK131:=n6_;have GW131:=n7_;have GE131:=n8_;have NB115_131:=n9_;have NB131_115:=n10_;have NB0_131:=n11_;have NB131_0:=n12_;clear n0_ n1_ n2_ n3_ n4_ n5_ n6_ n7_ n8_ n9_ n10_ n11_ n12_;clear hb hbox hg;have hnb19:=NB131_115.out;have hnc19:=NB115_131.out;have hnb20:=NB131_0.out;have hnc20:=NB0_131.out;obtain ⟨hcz21_0,hcz21_1,hcz21_2,hcz21_3,hfz21_0,hfz21_1,hfz21_2,hfz21_3⟩:=zk4 BK131.out)|((with_reducible refine gate_callee (f:=94) rfl ?_);refine zgo 17 Try.func94 #[.pointer (some ⟨g,0,none⟩),.int .i64 12] ?_;(with_reducible refine (spec_l1Cur_pick.calls g s0_0 t129 t130 12 t132 t133 t134 w0 _ ?side1 ?side2 A7.out).mono ?_);(case side1=>exact zz38);(case side2=>exact zz39);rintro e w22 ⟨rfl,hi,hb,hk⟩;refine ⟨_,rfl,?_⟩;replace BK115:=Aside0.mk (KeepBut.blk hk (g':=gb115) (o:=.cells #[.int .i64 0,.int .i64 0,.int .i64 0,.int .i64 0] 31 (0,0)) (by (with_reducible repeat (first|refine blk_drewN ?_ _|refine blk_drew ?_|refine blk_alloc ?_ _));refine blk_far ?_ NB115_131.out _;(with_reducible repeat (first|refine blk_drewN ?_ _|refine blk_drew ?_|refine blk_alloc ?_ _));refine blk_far ?_ NB115_131.out _;(with_reducible repeat (first|refine blk_drewN ?_ _|refine blk_drew ?_|refine blk_alloc ?_ _));refine blk_far ?_ NB115_131.out _;(with_reducible repeat (first|refine blk_drewN ?_ _|refine blk_drew ?_|refine blk_alloc ?_ _));refine blk_far ?_ NB115_131.out _;(with_reducible repeat (first|refine blk_drewN ?_ _|refine blk_drew ?_|refine blk_alloc ?_ _));exact BK115.out) NB115_0.out (by simp));replace HO118:=Aside0.mk (Kd.R_mono (Kd.R_keep (IsS45.apart (show IsS45 w0 _ g s0_0 t129 t130 from by repeat (first|(with_reducible first|exact HI0.out|apply IsS45.alloc|apply IsS45.drewN|apply IsS45.drew|apply IsS45.set_1|apply IsS45.set_2|refine IsS45.far ?_ NB0_115.out _|refine IsS45.far ?_ NB0_131.out _)|exact HI0.out)) (by (with_reducible repeat (first|apply Kd.R_alloc|apply Kd.R_drewN|apply Kd.R_drew));exact (Kd.R_mono (Kd.R_far (p:=⟨gb131,3,none⟩) (Kd.R_far (p:=⟨gb131,2,none⟩) (Kd.R_far (p:=⟨gb131,1,none⟩) (Kd.R_far (p:=⟨gb131,0,none⟩) (Kd.R_types HO118.out BK131.out (by decide)) (fun _ hk=>hk.2) (.int .i64 t119)) (fun _ hk=>hk.2) (.int .i64 t125)) (fun _ hk=>hk.2) (.int .i64 0)) (fun _ hk=>hk.2) (.int .i64 t128)) (fun _ h_=>h_.1))) (by decide)) hk (fun _ h=>h.2)) (fun _ h=>h.1));replace HO124:=Aside0.mk (Kd.R_mono (Kd.R_keep (IsS45.apart (show IsS45 w0 _ g s0_0 t129 t130 from by repeat (first|(with_reducible first|exact HI0.out|apply IsS45.alloc|apply IsS45.drewN|apply IsS45.drew|apply IsS45.set_1|apply IsS45.set_2|refine IsS45.far ?_ NB0_115.out _|refine IsS45.far ?_ NB0_131.out _)|exact HI0.out)) (by (with_reducible repeat (first|apply Kd.R_alloc|apply Kd.R_drewN|apply Kd.R_drew));exact (Kd.R_mono (Kd.R_far (p:=⟨gb131,3,none⟩) (Kd.R_far (p:=⟨gb131,2,none⟩) (Kd.R_far (p:=⟨gb131,1,none⟩) (Kd.R_far (p:=⟨gb131,0,none⟩) (Kd.R_types HO124.out BK131.out (by decide)) (fun _ hk=>hk.2) (.int .i64 t119)) (fun _ hk=>hk.2) (.int .i64 t125)) (fun _ hk=>hk.2) (.int .i64 0)) (fun _ hk=>hk.2) (.int .i64 t128)) (fun _ h_=>h_.1))) (by decide)) hk (fun _ h=>h.2)) (fun _ h=>h.1));replace BK131:=Aside0.mk (KeepBut.blk hk (g':=gb131) (o:=.cells #[.int .i64 t119,.int .i64 t125,.int .i64 0,.int .i64 t128] 31 (0,0)) (by (with_reducible repeat (first|refine blk_drewN ?_ _|refine blk_drew ?_|refine blk_alloc ?_ _));refine blk_put (cs:=#[.int .i64 t119,.int .i64 t125,.int .i64 0,.int .i64 0]) ?_ 3 _ rfl;(with_reducible repeat (first|refine blk_drewN ?_ _|refine blk_drew ?_|refine blk_alloc ?_ _));refine blk_put (cs:=#[.int .i64 t119,.int .i64 t125,.int .i64 0,.int .i64 0]) ?_ 2 _ rfl;(with_reducible repeat (first|refine blk_drewN ?_ _|refine blk_drew ?_|refine blk_alloc ?_ _));refine blk_put (cs:=#[.int .i64 t119,.int .i64 0,.int .i64 0,.int .i64 0]) ?_ 1 _ rfl;(with_reducible repeat (first|refine blk_drewN ?_ _|refine blk_drew ?_|refine blk_alloc ?_ _));refine blk_put (cs:=#[.int .i64 0,.int .i64 0,.int .i64 0,.int .i64 0]) ?_ 0 _ rfl;(with_reducible repeat (first|refine blk_drewN ?_ _|refine blk_drew ?_|refine blk_alloc ?_ _));exact BK131.out) NB131_0.out (by simp));replace HK:=Aside0.mk (KeepBut.trans zz40 hk (.inl rfl));replace HB:=Aside0.mk (hb);replace HI0:=Aside0.mk (hi);(try clear hb);(try clear hk);(try clear hi);obtain ⟨hcz23_0,hcz23_1,hcz23_2,hcz23_3,hfz23_0,hfz23_1,hfz23_2,hfz23_3⟩:=zk4 BK131.out;have hnb24:=NB115_0.out;have hnc24:=NB0_115.out;obtain ⟨hcz25_0,hcz25_1,hcz25_2,hcz25_3,hfz25_0,hfz25_1,hfz25_2,hfz25_3⟩:=zk4 BK115.out))
 refine bodyPost_ret (results_cell_row rfl _ _ gb115 31 #[.int .i64 t119,.int .i64 t125,.int .i64 t132,.int .i64 t128] (0,0) _ rfl (by (with_reducible repeat (first|refine blk_drewN ?_ _|refine blk_drew ?_|refine blk_alloc ?_ _));refine blk_put (cs:=#[.int .i64 t119,.int .i64 t125,.int .i64 t132,.int .i64 0]) ?_ 3 _ rfl;(with_reducible repeat (first|refine blk_drewN ?_ _|refine blk_drew ?_|refine blk_alloc ?_ _));refine blk_put (cs:=#[.int .i64 t119,.int .i64 t125,.int .i64 0,.int .i64 0]) ?_ 2 _ rfl;(with_reducible repeat (first|refine blk_drewN ?_ _|refine blk_drew ?_|refine blk_alloc ?_ _));refine blk_put (cs:=#[.int .i64 t119,.int .i64 0,.int .i64 0,.int .i64 0]) ?_ 1 _ rfl;(with_reducible repeat (first|refine blk_drewN ?_ _|refine blk_drew ?_|refine blk_alloc ?_ _));refine blk_put (cs:=#[.int .i64 0,.int .i64 0,.int .i64 0,.int .i64 0]) ?_ 0 _ rfl;(with_reducible repeat (first|refine blk_drewN ?_ _|refine blk_drew ?_|refine blk_alloc ?_ _));refine blk_far ?_ NB115_131.out _;(with_reducible repeat (first|refine blk_drewN ?_ _|refine blk_drew ?_|refine blk_alloc ?_ _));exact BK115.out) Try.underlying31 rfl (by kernel_rfl)) rfl ?_
 exact ⟨zz0,zz38,zz39,zz40⟩

/-! ### spec_l1Cur_spoiltJob: function 96 -/
def spec_l1Cur_spoiltJob.f (s0_0:List Int) (s0_1:Int) (s0_2:Int) (a1_0:Int) (a1_1:Int) (a1_2:Int) (a1_3:Int):Option (Int × Int × Int × Int × Int × Int):=(spec_l1Cur_pick.f s0_0 s0_1 s0_2 4).bind fun bt137=>(if bt137.1=0 then ((spec_l1Cur_among.f s0_0 bt137.2.1 bt137.2.2 (([0,50,51,(-1),4611686018427387904]:List Int))).bind fun bt143=>(some (bt143.1,a1_1,a1_2,a1_3,bt143.2.1,bt143.2.2))) else (if bt137.1=1 then ((spec_l1Cur_among.f s0_0 bt137.2.1 bt137.2.2 (([(-1),50,51]:List Int))).bind fun bt149=>(some (a1_0,bt149.1,a1_2,a1_3,bt149.2.1,bt149.2.2))) else (if bt137.1=2 then ((spec_l1Cur_among.f s0_0 bt137.2.1 bt137.2.2 (([(-1),500,501]:List Int))).bind fun bt155=>(some (a1_0,a1_1,bt155.1,a1_3,bt155.2.1,bt155.2.2))) else ((spec_l1Cur_among.f s0_0 bt137.2.1 bt137.2.2 (([(-1),500,501,(-9223372036854775808)]:List Int))).bind fun bt161=>(some (a1_0,a1_1,a1_2,bt161.1,bt161.2.1,bt161.2.2))))))
set_option maxHeartbeats 8000000 in
set_option maxRecDepth 100000 in
theorem spec_l1Cur_spoiltJob.calls (g:Nat) (s0_0:List Int) (s0_1:Int) (s0_2:Int) (a1_0:Int) (a1_1:Int) (a1_2:Int) (a1_3:Int) (r1:Int) (r2:Int) (r3:Int) (r4:Int) (r5:Int) (r6:Int) (w0 w:World) (hI:IsS45 w0 w g s0_0 s0_1 s0_2) (hB:Below w0.heap.size w0 w) (h:spec_l1Cur_spoiltJob.f s0_0 s0_1 s0_2 a1_0 a1_1 a1_2 a1_3=some (r1,r2,r3,r4,r5,r6)) :
  Calls Try.prog 96 #[.pointer (some ⟨g,0,none⟩),.agg #[.int .i64 a1_0,.int .i64 a1_1,.int .i64 a1_2,.int .i64 a1_3]] w fun e w'=>e=.returned (.agg #[.int .i64 r1,.int .i64 r2,.int .i64 r3,.int .i64 r4])∧IsS45 w0 w' g s0_0 r5 r6∧Below w0.heap.size w0 w'∧KeepBut w w' g none:=by
 have hu31:=Try.underlying31
 have HI0:=Aside0.mk hI
 have HK:=Aside0.mk (KeepBut.refl w g none)
 have HL:=Aside0.mk hB.size
 clear hI
 have HW0:=Aside0.mk hB.size
 have HB:=Aside0.mk hB
 clear hB
 have H:((spec_l1Cur_pick.f s0_0 s0_1 s0_2 4).bind fun bt137=>(if bt137.1=0 then ((spec_l1Cur_among.f s0_0 bt137.2.1 bt137.2.2 (([0,50,51,(-1),4611686018427387904]:List Int))).bind fun bt143=>(some (bt143.1,a1_1,a1_2,a1_3,bt143.2.1,bt143.2.2))) else (if bt137.1=1 then ((spec_l1Cur_among.f s0_0 bt137.2.1 bt137.2.2 (([(-1),50,51]:List Int))).bind fun bt149=>(some (a1_0,bt149.1,a1_2,a1_3,bt149.2.1,bt149.2.2))) else (if bt137.1=2 then ((spec_l1Cur_among.f s0_0 bt137.2.1 bt137.2.2 (([(-1),500,501]:List Int))).bind fun bt155=>(some (a1_0,a1_1,bt155.1,a1_3,bt155.2.1,bt155.2.2))) else ((spec_l1Cur_among.f s0_0 bt137.2.1 bt137.2.2 (([(-1),500,501,(-9223372036854775808)]:List Int))).bind fun bt161=>(some (a1_0,a1_1,a1_2,bt161.1,bt161.2.1,bt161.2.2)))))))=some (r1,r2,r3,r4,r5,r6):=h
 clear h
 replace H:=Option.bind_eq_some_iff.mp H
 obtain ⟨⟨t137,t138,t139⟩,A30,H⟩:=H
 try dsimp only at H
 have A3:=Aside0.mk A30
 clear A30
 by_cases c4:t137=0
 ·rw [if_pos c4] at H
  have c4b0:(t137 == 0)=true:=beq_iff_eq.mpr c4
  have c4b1:(t137 != 0)=false:=bne_eq_false_iff_eq.mpr c4
  clear c4
  obtain ⟨y140,hy140⟩:∃ y_:List Int,y_=(([0,50,51,(-1),4611686018427387904]:List Int)):=⟨_,rfl⟩
  replace H:((spec_l1Cur_among.f s0_0 t138 t139 y140).bind fun bt143=>(some (bt143.1,a1_1,a1_2,a1_3,bt143.2.1,bt143.2.2)))=some (r1,r2,r3,r4,r5,r6):=by first|(rw [hy140];with_reducible exact H)|(have H2_:=(Option.bind_some _ _).symm.trans H;rw [hy140];with_reducible exact H2_)|(have H2_:=(Option.bind_some _ _).symm.trans H;with_reducible exact H2_)|with_reducible exact H|(rw [hy140];exact H)|exact H
  have Ny140:=Aside0.mk hy140
  clear hy140
  replace H:=Option.bind_eq_some_iff.mp H
  obtain ⟨⟨t143,t144,t145⟩,A50,H⟩:=H
  try dsimp only at H
  have A5:=Aside0.mk A50
  clear A50
  simp only [Option.some.injEq,Prod.mk.injEq] at H
  obtain ⟨rfl,rfl,rfl,rfl,rfl,rfl⟩:=H
  go_enter Try.func96,Try.ntmps96
  go_wp2_with (first|((with_reducible refine gate_dst (N:=3) rfl ?_);refine box_event ?hg (N:=3) ?hd (cs:=#[.int .i64 a1_0,.int .i64 a1_1,.int .i64 a1_2,.int .i64 a1_3]) (t:=31) ?hr ?_;(case hd=>rfl);(case hg=>rfl);(case hr=>first|(go_simp;done)|(go_simp;rfl));intro gb135 hg w6 hbox hb;have n0_:=Aside0.mk (IsS45.below zz2 hb);have n1_:=Aside0.mk (KeepBut.trans zz1 (KeepBut.of_below hb g none) (.inl rfl));have n2_:=Aside0.mk (below_step zz3 hb);have n3_:=Aside0.mk (hbox);have n4_:=Aside0.mk ((by rw [hg];exact (keep_size (w:=w) (g:=g) (row:=none) zz1):w.heap.size≤gb135));have n5_:=Aside0.mk ((Nat.le_trans HW0.out (by rw [hg];exact (keep_size (w:=w) (g:=g) (row:=none) zz1):w.heap.size≤gb135):w0.heap.size≤gb135));have n6_:=Aside0.mk ((by rw [hg];exact Nat.ne_of_lt (IsS45.lt (show IsS45 w0 _ g s0_0 s0_1 s0_2 from by repeat (first|(with_reducible first|exact HI0.out|apply IsS45.alloc|apply IsS45.drewN|apply IsS45.drew|apply IsS45.set_1|apply IsS45.set_2)|exact HI0.out))):g≠gb135));have n7_:=Aside0.mk ((by rw [hg];exact Nat.ne_of_gt (IsS45.lt (show IsS45 w0 _ g s0_0 s0_1 s0_2 from by repeat (first|(with_reducible first|exact HI0.out|apply IsS45.alloc|apply IsS45.drewN|apply IsS45.drew|apply IsS45.set_1|apply IsS45.set_2)|exact HI0.out))):gb135≠g));clear HI0;clear HK;clear HB;have HI0:=n0_;have HK:=n1_;have HB:=n2_;have BK135:=n3_;have GW135:=n4_;have GE135:=n5_;have NB0_135:=n6_;have NB135_0:=n7_;clear n0_ n1_ n2_ n3_ n4_ n5_ n6_ n7_;clear hb hbox hg)|((with_reducible refine gate_dst (N:=4) rfl ?_);refine box_event ?hg (N:=4) ?hd (cs:=#[.int .i64 0,.int .i64 0,.int .i64 0,.int .i64 0]) (t:=31) ?hr ?_;(case hd=>rfl);(case hg=>rfl);(case hr=>first|(go_simp;done)|(go_simp;rfl));intro gb136 hg w7 hbox hb;have n0_:=Aside0.mk (IsS45.below zz32 hb);have n1_:=Aside0.mk (blk_below (g:=gb135) (o:=.cells #[.int .i64 a1_0,.int .i64 a1_1,.int .i64 a1_2,.int .i64 a1_3] 31 (0,0)) zz6 hb);have n2_:=Aside0.mk (KeepBut.trans zz17 (KeepBut.of_below hb g none) (.inl rfl));have n3_:=Aside0.mk (below_step zz33 hb);have n4_:=Aside0.mk (hbox);have n5_:=Aside0.mk ((by rw [hg];exact (keep_size (w:=w) (g:=g) (row:=none) zz17):w.heap.size≤gb136));have n6_:=Aside0.mk ((Nat.le_trans HW0.out (by rw [hg];exact (keep_size (w:=w) (g:=g) (row:=none) zz17):w.heap.size≤gb136):w0.heap.size≤gb136));have n7_:=Aside0.mk ((by rw [hg];exact Nat.ne_of_lt (blk_lt (g:=gb135) (o:=.cells #[.int .i64 a1_0,.int .i64 a1_1,.int .i64 a1_2,.int .i64 a1_3] 31 (0,0)) zz6):gb135≠gb136));have n8_:=Aside0.mk ((by rw [hg];exact Nat.ne_of_gt (blk_lt (g:=gb135) (o:=.cells #[.int .i64 a1_0,.int .i64 a1_1,.int .i64 a1_2,.int .i64 a1_3] 31 (0,0)) zz6):gb136≠gb135));have n9_:=Aside0.mk ((by rw [hg];exact Nat.ne_of_lt (IsS45.lt (show IsS45 w0 _ g s0_0 s0_1 s0_2 from by repeat (first|(with_reducible first|exact HI0.out|apply IsS45.alloc|apply IsS45.drewN|apply IsS45.drew|apply IsS45.set_1|apply IsS45.set_2|refine IsS45.far ?_ NB0_135.out _)|exact HI0.out))):g≠gb136));have n10_:=Aside0.mk ((by rw [hg];exact Nat.ne_of_gt (IsS45.lt (show IsS45 w0 _ g s0_0 s0_1 s0_2 from by repeat (first|(with_reducible first|exact HI0.out|apply IsS45.alloc|apply IsS45.drewN|apply IsS45.drew|apply IsS45.set_1|apply IsS45.set_2|refine IsS45.far ?_ NB0_135.out _)|exact HI0.out))):gb136≠g));clear HI0;clear BK135;clear HK;clear HB;have HI0:=n0_;have BK135:=n1_;have HK:=n2_;have HB:=n3_;have BK136:=n4_;have GW136:=n5_;have GE136:=n6_;have NB135_136:=n7_;have NB136_135:=n8_;have NB0_136:=n9_;have NB136_0:=n10_;clear n0_ n1_ n2_ n3_ n4_ n5_ n6_ n7_ n8_ n9_ n10_;clear hb hbox hg)|((with_reducible refine gate_callee (f:=94) rfl ?_);refine zgo 6 Try.func94 #[.pointer (some ⟨g,0,none⟩),.int .i64 4] ?_;(with_reducible refine (spec_l1Cur_pick.calls g s0_0 s0_1 s0_2 4 t137 t138 t139 w0 _ ?side1 ?side2 A3.out).mono ?_);(case side1=>exact zz12);(case side2=>exact zz13);rintro e w8 ⟨rfl,hi,hb,hk⟩;refine ⟨_,rfl,?_⟩;replace BK135:=Aside0.mk (KeepBut.blk hk (g':=gb135) (o:=.cells #[.int .i64 a1_0,.int .i64 a1_1,.int .i64 a1_2,.int .i64 a1_3] 31 (0,0)) zz6 NB135_0.out (by simp));replace BK136:=Aside0.mk (KeepBut.blk hk (g':=gb136) (o:=.cells #[.int .i64 0,.int .i64 0,.int .i64 0,.int .i64 0] 31 (0,0)) zz18 NB136_0.out (by simp));replace HK:=Aside0.mk (KeepBut.trans zz10 hk (.inl rfl));replace HB:=Aside0.mk (hb);replace HI0:=Aside0.mk (hi);(try clear hb);(try clear hk);(try clear hi))|((with_reducible refine gate_dst (N:=14) rfl ?_);refine Kd.R_lit (Kd.int .i64) _ 3 ?hg (N:=14) ?hd (xs:=([0,50,51,(-1),4611686018427387904]:List Int)) (inner:=[.int .i64 0,.int .i64 50,.int .i64 51,.int .i64 (-1),.int .i64 4611686018427387904]) (ok:=fun _=>True) (okp:=fun _=>True) ?hr ?hp (fun _ hk=>hk) trivial (Below.refl _ _) (Nat.le_refl _) (by simp) ?_;(case hd=>rfl);(case hg=>rfl);(case hr=>first|(go_simp;done)|(go_simp;rfl));(case hp=>exact (Reps.one (show Kd.M (Kd.int .i64) _ _ _ 0 [.int .i64 0] from rfl) (Reps.one (show Kd.M (Kd.int .i64) _ _ _ 50 [.int .i64 50] from rfl) (Reps.one (show Kd.M (Kd.int .i64) _ _ _ 51 [.int .i64 51] from rfl) (Reps.one (show Kd.M (Kd.int .i64) _ _ _ (-1) [.int .i64 (-1)] from rfl) (Reps.one (show Kd.M (Kd.int .i64) _ _ _ 4611686018427387904 [.int .i64 4611686018427387904] from rfl) (Reps.none _ _)))))));intro v141 w9 ho10 hb hg_ hnew_;clear hg_ hnew_;(first|rw [←Ny140.out] at ho10|(simp only [Int.reduceToNat] at ho10;rw [←Ny140.out] at ho10));have n0_:=Aside0.mk (Kd.R_lower ho10 (keep_size (w:=w) (g:=g) (row:=none) zz10));have n1_:=Aside0.mk (IsS45.below zz12 hb);have n2_:=Aside0.mk (blk_below (g:=gb135) (o:=.cells #[.int .i64 a1_0,.int .i64 a1_1,.int .i64 a1_2,.int .i64 a1_3] 31 (0,0)) zz6 hb);have n3_:=Aside0.mk (blk_below (g:=gb136) (o:=.cells #[.int .i64 0,.int .i64 0,.int .i64 0,.int .i64 0] 31 (0,0)) zz18 hb);have n4_:=Aside0.mk (KeepBut.trans zz10 (KeepBut.of_below hb g none) (.inl rfl));have n5_:=Aside0.mk (below_step zz13 hb);clear HI0;clear BK135;clear BK136;clear HK;clear HB;have HO142:=n0_;have HI0:=n1_;have BK135:=n2_;have BK136:=n3_;have HK:=n4_;have HB:=n5_;clear n0_ n1_ n2_ n3_ n4_ n5_;clear hb ho10;obtain ⟨Ao11,co11,eo11⟩:=Kd.R_slice HO142.out;subst eo11)|((with_reducible refine gate_callee (f:=55) rfl ?_);refine zgo 15 Try.func55 #[.pointer (some ⟨g,0,none⟩),.slice Ao11 y140.length co11] ?_;(with_reducible refine (spec_l1Cur_among.calls g s0_0 t138 t139 _ _ y140 t143 t144 t145 w0 _ ?side1 ?side2 ?side3 ?side4 ?side5 A5.out).mono ?_);(case side1=>exact zz12);(case side2=>exact zz13);(case side3=>exact zC ((Kd.R_reads' HO142.out).2.2));(case side4=>exact (Kd.R_reads' HO142.out).2.1);(case side5=>exact far_slice (IsS45.own_ne HI0.out HO142.out (by decide)));rintro e w12 ⟨rfl,hi,hb,hk⟩;refine ⟨_,rfl,?_⟩;replace BK135:=Aside0.mk (KeepBut.blk hk (g':=gb135) (o:=.cells #[.int .i64 a1_0,.int .i64 a1_1,.int .i64 a1_2,.int .i64 a1_3] 31 (0,0)) zz6 NB135_0.out (by simp));replace BK136:=Aside0.mk (KeepBut.blk hk (g':=gb136) (o:=.cells #[.int .i64 0,.int .i64 0,.int .i64 0,.int .i64 0] 31 (0,0)) zz18 NB136_0.out (by simp));replace HO142:=Aside0.mk (Kd.R_mono (Kd.R_keep (IsS45.apart (show IsS45 w0 _ g s0_0 t138 t139 from by repeat (first|(with_reducible first|exact HI0.out|apply IsS45.alloc|apply IsS45.drewN|apply IsS45.drew|apply IsS45.set_1|apply IsS45.set_2|refine IsS45.far ?_ NB0_135.out _|refine IsS45.far ?_ NB0_136.out _)|exact HI0.out)) (zR HO142.out) (by decide)) hk (fun _ h=>h.2)) (fun _ h=>h.1));replace HK:=Aside0.mk (KeepBut.trans zz10 hk (.inl rfl));replace HB:=Aside0.mk (hb);replace HI0:=Aside0.mk (hi);(try clear hb);(try clear hk);(try clear hi);have hnb13:=NB135_136.out;have hnc13:=NB136_135.out;have hnb14:=NB135_0.out;have hnc14:=NB0_135.out;obtain ⟨hcz15_0,hcz15_1,hcz15_2,hcz15_3,hfz15_0,hfz15_1,hfz15_2,hfz15_3⟩:=zk4 BK135.out;have hnb16:=NB136_0.out;have hnc16:=NB0_136.out;obtain ⟨hcz17_0,hcz17_1,hcz17_2,hcz17_3,hfz17_0,hfz17_1,hfz17_2,hfz17_3⟩:=zk4 BK136.out))
  refine bodyPost_ret (results_cell_row rfl _ _ gb136 31 #[.int .i64 t143,.int .i64 a1_1,.int .i64 a1_2,.int .i64 a1_3] (0,0) _ rfl (by (with_reducible repeat (first|refine blk_drewN ?_ _|refine blk_drew ?_|refine blk_alloc ?_ _));refine blk_put (cs:=#[.int .i64 t143,.int .i64 a1_1,.int .i64 a1_2,.int .i64 0]) ?_ 3 _ rfl;(with_reducible repeat (first|refine blk_drewN ?_ _|refine blk_drew ?_|refine blk_alloc ?_ _));refine blk_put (cs:=#[.int .i64 t143,.int .i64 a1_1,.int .i64 0,.int .i64 0]) ?_ 2 _ rfl;(with_reducible repeat (first|refine blk_drewN ?_ _|refine blk_drew ?_|refine blk_alloc ?_ _));refine blk_put (cs:=#[.int .i64 t143,.int .i64 0,.int .i64 0,.int .i64 0]) ?_ 1 _ rfl;(with_reducible repeat (first|refine blk_drewN ?_ _|refine blk_drew ?_|refine blk_alloc ?_ _));refine blk_put (cs:=#[.int .i64 0,.int .i64 0,.int .i64 0,.int .i64 0]) ?_ 0 _ rfl;(with_reducible repeat (first|refine blk_drewN ?_ _|refine blk_drew ?_|refine blk_alloc ?_ _));refine blk_far ?_ NB136_135.out _;(with_reducible repeat (first|refine blk_drewN ?_ _|refine blk_drew ?_|refine blk_alloc ?_ _));exact BK136.out) Try.underlying31 rfl (by kernel_rfl)) rfl ?_
  exact ⟨zz0,zz12,zz13,zz10⟩
 rw [if_neg c4] at H
 have c4b0:(t137 == 0)=false:=beq_eq_false_iff_ne.mpr c4
 have c4b1:(t137 != 0)=true:=bne_iff_ne.mpr c4
 by_cases c18:t137=1
 ·rw [if_pos c18] at H
  have c18b0:(t137 == 1)=true:=beq_iff_eq.mpr c18
  have c18b1:(t137 != 1)=false:=bne_eq_false_iff_eq.mpr c18
  clear c18
  obtain ⟨y146,hy146⟩:∃ y_:List Int,y_=(([(-1),50,51]:List Int)):=⟨_,rfl⟩
  replace H:((spec_l1Cur_among.f s0_0 t138 t139 y146).bind fun bt149=>(some (a1_0,bt149.1,a1_2,a1_3,bt149.2.1,bt149.2.2)))=some (r1,r2,r3,r4,r5,r6):=by first|(rw [hy146];with_reducible exact H)|(have H2_:=(Option.bind_some _ _).symm.trans H;rw [hy146];with_reducible exact H2_)|(have H2_:=(Option.bind_some _ _).symm.trans H;with_reducible exact H2_)|with_reducible exact H|(rw [hy146];exact H)|exact H
  have Ny146:=Aside0.mk hy146
  clear hy146
  replace H:=Option.bind_eq_some_iff.mp H
  obtain ⟨⟨t149,t150,t151⟩,A190,H⟩:=H
  try dsimp only at H
  have A19:=Aside0.mk A190
  clear A190
  simp only [Option.some.injEq,Prod.mk.injEq] at H
  obtain ⟨rfl,rfl,rfl,rfl,rfl,rfl⟩:=H
  go_enter Try.func96,Try.ntmps96
  go_wp2_with (first|((with_reducible refine gate_dst (N:=3) rfl ?_);refine box_event ?hg (N:=3) ?hd (cs:=#[.int .i64 a1_0,.int .i64 a1_1,.int .i64 a1_2,.int .i64 a1_3]) (t:=31) ?hr ?_;(case hd=>rfl);(case hg=>rfl);(case hr=>first|(go_simp;done)|(go_simp;rfl));intro gb135 hg w20 hbox hb;have n0_:=Aside0.mk (IsS45.below zz2 hb);have n1_:=Aside0.mk (KeepBut.trans zz1 (KeepBut.of_below hb g none) (.inl rfl));have n2_:=Aside0.mk (below_step zz3 hb);have n3_:=Aside0.mk (hbox);have n4_:=Aside0.mk ((by rw [hg];exact (keep_size (w:=w) (g:=g) (row:=none) zz1):w.heap.size≤gb135));have n5_:=Aside0.mk ((Nat.le_trans HW0.out (by rw [hg];exact (keep_size (w:=w) (g:=g) (row:=none) zz1):w.heap.size≤gb135):w0.heap.size≤gb135));have n6_:=Aside0.mk ((by rw [hg];exact Nat.ne_of_lt (IsS45.lt (show IsS45 w0 _ g s0_0 s0_1 s0_2 from by repeat (first|(with_reducible first|exact HI0.out|apply IsS45.alloc|apply IsS45.drewN|apply IsS45.drew|apply IsS45.set_1|apply IsS45.set_2)|exact HI0.out))):g≠gb135));have n7_:=Aside0.mk ((by rw [hg];exact Nat.ne_of_gt (IsS45.lt (show IsS45 w0 _ g s0_0 s0_1 s0_2 from by repeat (first|(with_reducible first|exact HI0.out|apply IsS45.alloc|apply IsS45.drewN|apply IsS45.drew|apply IsS45.set_1|apply IsS45.set_2)|exact HI0.out))):gb135≠g));clear HI0;clear HK;clear HB;have HI0:=n0_;have HK:=n1_;have HB:=n2_;have BK135:=n3_;have GW135:=n4_;have GE135:=n5_;have NB0_135:=n6_;have NB135_0:=n7_;clear n0_ n1_ n2_ n3_ n4_ n5_ n6_ n7_;clear hb hbox hg)|((with_reducible refine gate_dst (N:=4) rfl ?_);refine box_event ?hg (N:=4) ?hd (cs:=#[.int .i64 0,.int .i64 0,.int .i64 0,.int .i64 0]) (t:=31) ?hr ?_;(case hd=>rfl);(case hg=>rfl);(case hr=>first|(go_simp;done)|(go_simp;rfl));intro gb136 hg w21 hbox hb;have n0_:=Aside0.mk (IsS45.below zz32 hb);have n1_:=Aside0.mk (blk_below (g:=gb135) (o:=.cells #[.int .i64 a1_0,.int .i64 a1_1,.int .i64 a1_2,.int .i64 a1_3] 31 (0,0)) zz6 hb);have n2_:=Aside0.mk (KeepBut.trans zz17 (KeepBut.of_below hb g none) (.inl rfl));have n3_:=Aside0.mk (below_step zz33 hb);have n4_:=Aside0.mk (hbox);have n5_:=Aside0.mk ((by rw [hg];exact (keep_size (w:=w) (g:=g) (row:=none) zz17):w.heap.size≤gb136));have n6_:=Aside0.mk ((Nat.le_trans HW0.out (by rw [hg];exact (keep_size (w:=w) (g:=g) (row:=none) zz17):w.heap.size≤gb136):w0.heap.size≤gb136));have n7_:=Aside0.mk ((by rw [hg];exact Nat.ne_of_lt (blk_lt (g:=gb135) (o:=.cells #[.int .i64 a1_0,.int .i64 a1_1,.int .i64 a1_2,.int .i64 a1_3] 31 (0,0)) zz6):gb135≠gb136));have n8_:=Aside0.mk ((by rw [hg];exact Nat.ne_of_gt (blk_lt (g:=gb135) (o:=.cells #[.int .i64 a1_0,.int .i64 a1_1,.int .i64 a1_2,.int .i64 a1_3] 31 (0,0)) zz6):gb136≠gb135));have n9_:=Aside0.mk ((by rw [hg];exact Nat.ne_of_lt (IsS45.lt (show IsS45 w0 _ g s0_0 s0_1 s0_2 from by repeat (first|(with_reducible first|exact HI0.out|apply IsS45.alloc|apply IsS45.drewN|apply IsS45.drew|apply IsS45.set_1|apply IsS45.set_2|refine IsS45.far ?_ NB0_135.out _)|exact HI0.out))):g≠gb136));have n10_:=Aside0.mk ((by rw [hg];exact Nat.ne_of_gt (IsS45.lt (show IsS45 w0 _ g s0_0 s0_1 s0_2 from by repeat (first|(with_reducible first|exact HI0.out|apply IsS45.alloc|apply IsS45.drewN|apply IsS45.drew|apply IsS45.set_1|apply IsS45.set_2|refine IsS45.far ?_ NB0_135.out _)|exact HI0.out))):gb136≠g));clear HI0;clear BK135;clear HK;clear HB;have HI0:=n0_;have BK135:=n1_;have HK:=n2_;have HB:=n3_;have BK136:=n4_;have GW136:=n5_;have GE136:=n6_;have NB135_136:=n7_;have NB136_135:=n8_;have NB0_136:=n9_;have NB136_0:=n10_;clear n0_ n1_ n2_ n3_ n4_ n5_ n6_ n7_ n8_ n9_ n10_;clear hb hbox hg)|((with_reducible refine gate_callee (f:=94) rfl ?_);refine zgo 6 Try.func94 #[.pointer (some ⟨g,0,none⟩),.int .i64 4] ?_;(with_reducible refine (spec_l1Cur_pick.calls g s0_0 s0_1 s0_2 4 t137 t138 t139 w0 _ ?side1 ?side2 A3.out).mono ?_);(case side1=>exact zz12);(case side2=>exact zz13);rintro e w22 ⟨rfl,hi,hb,hk⟩;refine ⟨_,rfl,?_⟩;replace BK135:=Aside0.mk (KeepBut.blk hk (g':=gb135) (o:=.cells #[.int .i64 a1_0,.int .i64 a1_1,.int .i64 a1_2,.int .i64 a1_3] 31 (0,0)) zz6 NB135_0.out (by simp));replace BK136:=Aside0.mk (KeepBut.blk hk (g':=gb136) (o:=.cells #[.int .i64 0,.int .i64 0,.int .i64 0,.int .i64 0] 31 (0,0)) zz18 NB136_0.out (by simp));replace HK:=Aside0.mk (KeepBut.trans zz10 hk (.inl rfl));replace HB:=Aside0.mk (hb);replace HI0:=Aside0.mk (hi);(try clear hb);(try clear hk);(try clear hi))|((with_reducible refine gate_dst (N:=20) rfl ?_);refine Kd.R_lit (Kd.int .i64) _ 3 ?hg (N:=20) ?hd (xs:=([(-1),50,51]:List Int)) (inner:=[.int .i64 (-1),.int .i64 50,.int .i64 51]) (ok:=fun _=>True) (okp:=fun _=>True) ?hr ?hp (fun _ hk=>hk) trivial (Below.refl _ _) (Nat.le_refl _) (by simp) ?_;(case hd=>rfl);(case hg=>rfl);(case hr=>first|(go_simp;done)|(go_simp;rfl));(case hp=>exact (Reps.one (show Kd.M (Kd.int .i64) _ _ _ (-1) [.int .i64 (-1)] from rfl) (Reps.one (show Kd.M (Kd.int .i64) _ _ _ 50 [.int .i64 50] from rfl) (Reps.one (show Kd.M (Kd.int .i64) _ _ _ 51 [.int .i64 51] from rfl) (Reps.none _ _)))));intro v147 w23 ho24 hb hg_ hnew_;clear hg_ hnew_;(first|rw [←Ny146.out] at ho24|(simp only [Int.reduceToNat] at ho24;rw [←Ny146.out] at ho24));have n0_:=Aside0.mk (Kd.R_lower ho24 (keep_size (w:=w) (g:=g) (row:=none) zz10));have n1_:=Aside0.mk (IsS45.below zz12 hb);have n2_:=Aside0.mk (blk_below (g:=gb135) (o:=.cells #[.int .i64 a1_0,.int .i64 a1_1,.int .i64 a1_2,.int .i64 a1_3] 31 (0,0)) zz6 hb);have n3_:=Aside0.mk (blk_below (g:=gb136) (o:=.cells #[.int .i64 0,.int .i64 0,.int .i64 0,.int .i64 0] 31 (0,0)) zz18 hb);have n4_:=Aside0.mk (KeepBut.trans zz10 (KeepBut.of_below hb g none) (.inl rfl));have n5_:=Aside0.mk (below_step zz13 hb);clear HI0;clear BK135;clear BK136;clear HK;clear HB;have HO148:=n0_;have HI0:=n1_;have BK135:=n2_;have BK136:=n3_;have HK:=n4_;have HB:=n5_;clear n0_ n1_ n2_ n3_ n4_ n5_;clear hb ho24;obtain ⟨Ao25,co25,eo25⟩:=Kd.R_slice HO148.out;subst eo25)|((with_reducible refine gate_callee (f:=55) rfl ?_);refine zgo 21 Try.func55 #[.pointer (some ⟨g,0,none⟩),.slice Ao25 y146.length co25] ?_;(with_reducible refine (spec_l1Cur_among.calls g s0_0 t138 t139 _ _ y146 t149 t150 t151 w0 _ ?side1 ?side2 ?side3 ?side4 ?side5 A19.out).mono ?_);(case side1=>exact zz12);(case side2=>exact zz13);(case side3=>exact zC ((Kd.R_reads' HO148.out).2.2));(case side4=>exact (Kd.R_reads' HO148.out).2.1);(case side5=>exact far_slice (IsS45.own_ne HI0.out HO148.out (by decide)));rintro e w26 ⟨rfl,hi,hb,hk⟩;refine ⟨_,rfl,?_⟩;replace BK135:=Aside0.mk (KeepBut.blk hk (g':=gb135) (o:=.cells #[.int .i64 a1_0,.int .i64 a1_1,.int .i64 a1_2,.int .i64 a1_3] 31 (0,0)) zz6 NB135_0.out (by simp));replace BK136:=Aside0.mk (KeepBut.blk hk (g':=gb136) (o:=.cells #[.int .i64 0,.int .i64 0,.int .i64 0,.int .i64 0] 31 (0,0)) zz18 NB136_0.out (by simp));replace HO148:=Aside0.mk (Kd.R_mono (Kd.R_keep (IsS45.apart (show IsS45 w0 _ g s0_0 t138 t139 from by repeat (first|(with_reducible first|exact HI0.out|apply IsS45.alloc|apply IsS45.drewN|apply IsS45.drew|apply IsS45.set_1|apply IsS45.set_2|refine IsS45.far ?_ NB0_135.out _|refine IsS45.far ?_ NB0_136.out _)|exact HI0.out)) (zR HO148.out) (by decide)) hk (fun _ h=>h.2)) (fun _ h=>h.1));replace HK:=Aside0.mk (KeepBut.trans zz10 hk (.inl rfl));replace HB:=Aside0.mk (hb);replace HI0:=Aside0.mk (hi);(try clear hb);(try clear hk);(try clear hi);have hnb27:=NB135_136.out;have hnc27:=NB136_135.out;have hnb28:=NB135_0.out;have hnc28:=NB0_135.out;obtain ⟨hcz29_0,hcz29_1,hcz29_2,hcz29_3,hfz29_0,hfz29_1,hfz29_2,hfz29_3⟩:=zk4 BK135.out;have hnb30:=NB136_0.out;have hnc30:=NB0_136.out;obtain ⟨hcz31_0,hcz31_1,hcz31_2,hcz31_3,hfz31_0,hfz31_1,hfz31_2,hfz31_3⟩:=zk4 BK136.out))
  refine bodyPost_ret (results_cell_row rfl _ _ gb136 31 #[.int .i64 a1_0,.int .i64 t149,.int .i64 a1_2,.int .i64 a1_3] (0,0) _ rfl (by (with_reducible repeat (first|refine blk_drewN ?_ _|refine blk_drew ?_|refine blk_alloc ?_ _));refine blk_put (cs:=#[.int .i64 a1_0,.int .i64 t149,.int .i64 a1_2,.int .i64 0]) ?_ 3 _ rfl;(with_reducible repeat (first|refine blk_drewN ?_ _|refine blk_drew ?_|refine blk_alloc ?_ _));refine blk_put (cs:=#[.int .i64 a1_0,.int .i64 t149,.int .i64 0,.int .i64 0]) ?_ 2 _ rfl;(with_reducible repeat (first|refine blk_drewN ?_ _|refine blk_drew ?_|refine blk_alloc ?_ _));refine blk_put (cs:=#[.int .i64 a1_0,.int .i64 0,.int .i64 0,.int .i64 0]) ?_ 1 _ rfl;(with_reducible repeat (first|refine blk_drewN ?_ _|refine blk_drew ?_|refine blk_alloc ?_ _));refine blk_put (cs:=#[.int .i64 0,.int .i64 0,.int .i64 0,.int .i64 0]) ?_ 0 _ rfl;(with_reducible repeat (first|refine blk_drewN ?_ _|refine blk_drew ?_|refine blk_alloc ?_ _));refine blk_far ?_ NB136_135.out _;(with_reducible repeat (first|refine blk_drewN ?_ _|refine blk_drew ?_|refine blk_alloc ?_ _));exact BK136.out) Try.underlying31 rfl (by kernel_rfl)) rfl ?_
  exact ⟨zz0,zz12,zz13,zz10⟩
 rw [if_neg c18] at H
 have c18b0:(t137 == 1)=false:=beq_eq_false_iff_ne.mpr c18
 have c18b1:(t137 != 1)=true:=bne_iff_ne.mpr c18
 by_cases c32:t137=2
 ·rw [if_pos c32] at H
  have c32b0:(t137 == 2)=true:=beq_iff_eq.mpr c32
  have c32b1:(t137 != 2)=false:=bne_eq_false_iff_eq.mpr c32
  clear c32
  obtain ⟨y152,hy152⟩:∃ y_:List Int,y_=(([(-1),500,501]:List Int)):=⟨_,rfl⟩
  replace H:((spec_l1Cur_among.f s0_0 t138 t139 y152).bind fun bt155=>(some (a1_0,a1_1,bt155.1,a1_3,bt155.2.1,bt155.2.2)))=some (r1,r2,r3,r4,r5,r6):=by first|(rw [hy152];with_reducible exact H)|(have H2_:=(Option.bind_some _ _).symm.trans H;rw [hy152];with_reducible exact H2_)|(have H2_:=(Option.bind_some _ _).symm.trans H;with_reducible exact H2_)|with_reducible exact H|(rw [hy152];exact H)|exact H
  have Ny152:=Aside0.mk hy152
  clear hy152
  replace H:=Option.bind_eq_some_iff.mp H
  obtain ⟨⟨t155,t156,t157⟩,A330,H⟩:=H
  try dsimp only at H
  have A33:=Aside0.mk A330
  clear A330
  simp only [Option.some.injEq,Prod.mk.injEq] at H
  obtain ⟨rfl,rfl,rfl,rfl,rfl,rfl⟩:=H
  go_enter Try.func96,Try.ntmps96
  go_wp2_with (first|((with_reducible refine gate_dst (N:=3) rfl ?_);refine box_event ?hg (N:=3) ?hd (cs:=#[.int .i64 a1_0,.int .i64 a1_1,.int .i64 a1_2,.int .i64 a1_3]) (t:=31) ?hr ?_;(case hd=>rfl);(case hg=>rfl);(case hr=>first|(go_simp;done)|(go_simp;rfl));intro gb135 hg w34 hbox hb;have n0_:=Aside0.mk (IsS45.below zz2 hb);have n1_:=Aside0.mk (KeepBut.trans zz1 (KeepBut.of_below hb g none) (.inl rfl));have n2_:=Aside0.mk (below_step zz3 hb);have n3_:=Aside0.mk (hbox);have n4_:=Aside0.mk ((by rw [hg];exact (keep_size (w:=w) (g:=g) (row:=none) zz1):w.heap.size≤gb135));have n5_:=Aside0.mk ((Nat.le_trans HW0.out (by rw [hg];exact (keep_size (w:=w) (g:=g) (row:=none) zz1):w.heap.size≤gb135):w0.heap.size≤gb135));have n6_:=Aside0.mk ((by rw [hg];exact Nat.ne_of_lt (IsS45.lt (show IsS45 w0 _ g s0_0 s0_1 s0_2 from by repeat (first|(with_reducible first|exact HI0.out|apply IsS45.alloc|apply IsS45.drewN|apply IsS45.drew|apply IsS45.set_1|apply IsS45.set_2)|exact HI0.out))):g≠gb135));have n7_:=Aside0.mk ((by rw [hg];exact Nat.ne_of_gt (IsS45.lt (show IsS45 w0 _ g s0_0 s0_1 s0_2 from by repeat (first|(with_reducible first|exact HI0.out|apply IsS45.alloc|apply IsS45.drewN|apply IsS45.drew|apply IsS45.set_1|apply IsS45.set_2)|exact HI0.out))):gb135≠g));clear HI0;clear HK;clear HB;have HI0:=n0_;have HK:=n1_;have HB:=n2_;have BK135:=n3_;have GW135:=n4_;have GE135:=n5_;have NB0_135:=n6_;have NB135_0:=n7_;clear n0_ n1_ n2_ n3_ n4_ n5_ n6_ n7_;clear hb hbox hg)|((with_reducible refine gate_dst (N:=4) rfl ?_);refine box_event ?hg (N:=4) ?hd (cs:=#[.int .i64 0,.int .i64 0,.int .i64 0,.int .i64 0]) (t:=31) ?hr ?_;(case hd=>rfl);(case hg=>rfl);(case hr=>first|(go_simp;done)|(go_simp;rfl));intro gb136 hg w35 hbox hb;have n0_:=Aside0.mk (IsS45.below zz32 hb);have n1_:=Aside0.mk (blk_below (g:=gb135) (o:=.cells #[.int .i64 a1_0,.int .i64 a1_1,.int .i64 a1_2,.int .i64 a1_3] 31 (0,0)) zz6 hb);have n2_:=Aside0.mk (KeepBut.trans zz17 (KeepBut.of_below hb g none) (.inl rfl));have n3_:=Aside0.mk (below_step zz33 hb);have n4_:=Aside0.mk (hbox);have n5_:=Aside0.mk ((by rw [hg];exact (keep_size (w:=w) (g:=g) (row:=none) zz17):w.heap.size≤gb136));have n6_:=Aside0.mk ((Nat.le_trans HW0.out (by rw [hg];exact (keep_size (w:=w) (g:=g) (row:=none) zz17):w.heap.size≤gb136):w0.heap.size≤gb136));have n7_:=Aside0.mk ((by rw [hg];exact Nat.ne_of_lt (blk_lt (g:=gb135) (o:=.cells #[.int .i64 a1_0,.int .i64 a1_1,.int .i64 a1_2,.int .i64 a1_3] 31 (0,0)) zz6):gb135≠gb136));have n8_:=Aside0.mk ((by rw [hg];exact Nat.ne_of_gt (blk_lt (g:=gb135) (o:=.cells #[.int .i64 a1_0,.int .i64 a1_1,.int .i64 a1_2,.int .i64 a1_3] 31 (0,0)) zz6):gb136≠gb135));have n9_:=Aside0.mk ((by rw [hg];exact Nat.ne_of_lt (IsS45.lt (show IsS45 w0 _ g s0_0 s0_1 s0_2 from by repeat (first|(with_reducible first|exact HI0.out|apply IsS45.alloc|apply IsS45.drewN|apply IsS45.drew|apply IsS45.set_1|apply IsS45.set_2|refine IsS45.far ?_ NB0_135.out _)|exact HI0.out))):g≠gb136));have n10_:=Aside0.mk ((by rw [hg];exact Nat.ne_of_gt (IsS45.lt (show IsS45 w0 _ g s0_0 s0_1 s0_2 from by repeat (first|(with_reducible first|exact HI0.out|apply IsS45.alloc|apply IsS45.drewN|apply IsS45.drew|apply IsS45.set_1|apply IsS45.set_2|refine IsS45.far ?_ NB0_135.out _)|exact HI0.out))):gb136≠g));clear HI0;clear BK135;clear HK;clear HB;have HI0:=n0_;have BK135:=n1_;have HK:=n2_;have HB:=n3_;have BK136:=n4_;have GW136:=n5_;have GE136:=n6_;have NB135_136:=n7_;have NB136_135:=n8_;have NB0_136:=n9_;have NB136_0:=n10_;clear n0_ n1_ n2_ n3_ n4_ n5_ n6_ n7_ n8_ n9_ n10_;clear hb hbox hg)|((with_reducible refine gate_callee (f:=94) rfl ?_);refine zgo 6 Try.func94 #[.pointer (some ⟨g,0,none⟩),.int .i64 4] ?_;(with_reducible refine (spec_l1Cur_pick.calls g s0_0 s0_1 s0_2 4 t137 t138 t139 w0 _ ?side1 ?side2 A3.out).mono ?_);(case side1=>exact zz12);(case side2=>exact zz13);rintro e w36 ⟨rfl,hi,hb,hk⟩;refine ⟨_,rfl,?_⟩;replace BK135:=Aside0.mk (KeepBut.blk hk (g':=gb135) (o:=.cells #[.int .i64 a1_0,.int .i64 a1_1,.int .i64 a1_2,.int .i64 a1_3] 31 (0,0)) zz6 NB135_0.out (by simp));replace BK136:=Aside0.mk (KeepBut.blk hk (g':=gb136) (o:=.cells #[.int .i64 0,.int .i64 0,.int .i64 0,.int .i64 0] 31 (0,0)) zz18 NB136_0.out (by simp));replace HK:=Aside0.mk (KeepBut.trans zz10 hk (.inl rfl));replace HB:=Aside0.mk (hb);replace HI0:=Aside0.mk (hi);(try clear hb);(try clear hk);(try clear hi))|((with_reducible refine gate_dst (N:=26) rfl ?_);refine Kd.R_lit (Kd.int .i64) _ 3 ?hg (N:=26) ?hd (xs:=([(-1),500,501]:List Int)) (inner:=[.int .i64 (-1),.int .i64 500,.int .i64 501]) (ok:=fun _=>True) (okp:=fun _=>True) ?hr ?hp (fun _ hk=>hk) trivial (Below.refl _ _) (Nat.le_refl _) (by simp) ?_;(case hd=>rfl);(case hg=>rfl);(case hr=>first|(go_simp;done)|(go_simp;rfl));(case hp=>exact (Reps.one (show Kd.M (Kd.int .i64) _ _ _ (-1) [.int .i64 (-1)] from rfl) (Reps.one (show Kd.M (Kd.int .i64) _ _ _ 500 [.int .i64 500] from rfl) (Reps.one (show Kd.M (Kd.int .i64) _ _ _ 501 [.int .i64 501] from rfl) (Reps.none _ _)))));intro v153 w37 ho38 hb hg_ hnew_;clear hg_ hnew_;(first|rw [←Ny152.out] at ho38|(simp only [Int.reduceToNat] at ho38;rw [←Ny152.out] at ho38));have n0_:=Aside0.mk (Kd.R_lower ho38 (keep_size (w:=w) (g:=g) (row:=none) zz10));have n1_:=Aside0.mk (IsS45.below zz12 hb);have n2_:=Aside0.mk (blk_below (g:=gb135) (o:=.cells #[.int .i64 a1_0,.int .i64 a1_1,.int .i64 a1_2,.int .i64 a1_3] 31 (0,0)) zz6 hb);have n3_:=Aside0.mk (blk_below (g:=gb136) (o:=.cells #[.int .i64 0,.int .i64 0,.int .i64 0,.int .i64 0] 31 (0,0)) zz18 hb);have n4_:=Aside0.mk (KeepBut.trans zz10 (KeepBut.of_below hb g none) (.inl rfl));have n5_:=Aside0.mk (below_step zz13 hb);clear HI0;clear BK135;clear BK136;clear HK;clear HB;have HO154:=n0_;have HI0:=n1_;have BK135:=n2_;have BK136:=n3_;have HK:=n4_;have HB:=n5_;clear n0_ n1_ n2_ n3_ n4_ n5_;clear hb ho38;obtain ⟨Ao39,co39,eo39⟩:=Kd.R_slice HO154.out;subst eo39)|((with_reducible refine gate_callee (f:=55) rfl ?_);refine zgo 27 Try.func55 #[.pointer (some ⟨g,0,none⟩),.slice Ao39 y152.length co39] ?_;(with_reducible refine (spec_l1Cur_among.calls g s0_0 t138 t139 _ _ y152 t155 t156 t157 w0 _ ?side1 ?side2 ?side3 ?side4 ?side5 A33.out).mono ?_);(case side1=>exact zz12);(case side2=>exact zz13);(case side3=>exact zC ((Kd.R_reads' HO154.out).2.2));(case side4=>exact (Kd.R_reads' HO154.out).2.1);(case side5=>exact far_slice (IsS45.own_ne HI0.out HO154.out (by decide)));rintro e w40 ⟨rfl,hi,hb,hk⟩;refine ⟨_,rfl,?_⟩;replace BK135:=Aside0.mk (KeepBut.blk hk (g':=gb135) (o:=.cells #[.int .i64 a1_0,.int .i64 a1_1,.int .i64 a1_2,.int .i64 a1_3] 31 (0,0)) zz6 NB135_0.out (by simp));replace BK136:=Aside0.mk (KeepBut.blk hk (g':=gb136) (o:=.cells #[.int .i64 0,.int .i64 0,.int .i64 0,.int .i64 0] 31 (0,0)) zz18 NB136_0.out (by simp));replace HO154:=Aside0.mk (Kd.R_mono (Kd.R_keep (IsS45.apart (show IsS45 w0 _ g s0_0 t138 t139 from by repeat (first|(with_reducible first|exact HI0.out|apply IsS45.alloc|apply IsS45.drewN|apply IsS45.drew|apply IsS45.set_1|apply IsS45.set_2|refine IsS45.far ?_ NB0_135.out _|refine IsS45.far ?_ NB0_136.out _)|exact HI0.out)) (zR HO154.out) (by decide)) hk (fun _ h=>h.2)) (fun _ h=>h.1));replace HK:=Aside0.mk (KeepBut.trans zz10 hk (.inl rfl));replace HB:=Aside0.mk (hb);replace HI0:=Aside0.mk (hi);(try clear hb);(try clear hk);(try clear hi);have hnb41:=NB135_136.out;have hnc41:=NB136_135.out;have hnb42:=NB135_0.out;have hnc42:=NB0_135.out;obtain ⟨hcz43_0,hcz43_1,hcz43_2,hcz43_3,hfz43_0,hfz43_1,hfz43_2,hfz43_3⟩:=zk4 BK135.out;have hnb44:=NB136_0.out;have hnc44:=NB0_136.out;obtain ⟨hcz45_0,hcz45_1,hcz45_2,hcz45_3,hfz45_0,hfz45_1,hfz45_2,hfz45_3⟩:=zk4 BK136.out))
  refine bodyPost_ret (results_cell_row rfl _ _ gb136 31 #[.int .i64 a1_0,.int .i64 a1_1,.int .i64 t155,.int .i64 a1_3] (0,0) _ rfl (by (with_reducible repeat (first|refine blk_drewN ?_ _|refine blk_drew ?_|refine blk_alloc ?_ _));refine blk_put (cs:=#[.int .i64 a1_0,.int .i64 a1_1,.int .i64 t155,.int .i64 0]) ?_ 3 _ rfl;(with_reducible repeat (first|refine blk_drewN ?_ _|refine blk_drew ?_|refine blk_alloc ?_ _));refine blk_put (cs:=#[.int .i64 a1_0,.int .i64 a1_1,.int .i64 0,.int .i64 0]) ?_ 2 _ rfl;(with_reducible repeat (first|refine blk_drewN ?_ _|refine blk_drew ?_|refine blk_alloc ?_ _));refine blk_put (cs:=#[.int .i64 a1_0,.int .i64 0,.int .i64 0,.int .i64 0]) ?_ 1 _ rfl;(with_reducible repeat (first|refine blk_drewN ?_ _|refine blk_drew ?_|refine blk_alloc ?_ _));refine blk_put (cs:=#[.int .i64 0,.int .i64 0,.int .i64 0,.int .i64 0]) ?_ 0 _ rfl;(with_reducible repeat (first|refine blk_drewN ?_ _|refine blk_drew ?_|refine blk_alloc ?_ _));refine blk_far ?_ NB136_135.out _;(with_reducible repeat (first|refine blk_drewN ?_ _|refine blk_drew ?_|refine blk_alloc ?_ _));exact BK136.out) Try.underlying31 rfl (by kernel_rfl)) rfl ?_
  exact ⟨zz0,zz12,zz13,zz10⟩
 rw [if_neg c32] at H
 have c32b0:(t137 == 2)=false:=beq_eq_false_iff_ne.mpr c32
 have c32b1:(t137 != 2)=true:=bne_iff_ne.mpr c32
 obtain ⟨y158,hy158⟩:∃ y_:List Int,y_=(([(-1),500,501,(-9223372036854775808)]:List Int)):=⟨_,rfl⟩
 replace H:((spec_l1Cur_among.f s0_0 t138 t139 y158).bind fun bt161=>(some (a1_0,a1_1,a1_2,bt161.1,bt161.2.1,bt161.2.2)))=some (r1,r2,r3,r4,r5,r6):=by first|(rw [hy158];with_reducible exact H)|(have H2_:=(Option.bind_some _ _).symm.trans H;rw [hy158];with_reducible exact H2_)|(have H2_:=(Option.bind_some _ _).symm.trans H;with_reducible exact H2_)|with_reducible exact H|(rw [hy158];exact H)|exact H
 have Ny158:=Aside0.mk hy158
 clear hy158
 replace H:=Option.bind_eq_some_iff.mp H
 obtain ⟨⟨t161,t162,t163⟩,A460,H⟩:=H
 try dsimp only at H
 have A46:=Aside0.mk A460
 clear A460
 simp only [Option.some.injEq,Prod.mk.injEq] at H
 obtain ⟨rfl,rfl,rfl,rfl,rfl,rfl⟩:=H
 go_enter Try.func96,Try.ntmps96
 go_wp2_with (first|((with_reducible refine gate_dst (N:=3) rfl ?_);refine box_event ?hg (N:=3) ?hd (cs:=#[.int .i64 a1_0,.int .i64 a1_1,.int .i64 a1_2,.int .i64 a1_3]) (t:=31) ?hr ?_;(case hd=>rfl);(case hg=>rfl);(case hr=>first|(go_simp;done)|(go_simp;rfl));intro gb135 hg w47 hbox hb;have n0_:=Aside0.mk (IsS45.below zz2 hb);have n1_:=Aside0.mk (KeepBut.trans zz1 (KeepBut.of_below hb g none) (.inl rfl));have n2_:=Aside0.mk (below_step zz3 hb);have n3_:=Aside0.mk (hbox);have n4_:=Aside0.mk ((by rw [hg];exact (keep_size (w:=w) (g:=g) (row:=none) zz1):w.heap.size≤gb135));have n5_:=Aside0.mk ((Nat.le_trans HW0.out (by rw [hg];exact (keep_size (w:=w) (g:=g) (row:=none) zz1):w.heap.size≤gb135):w0.heap.size≤gb135));have n6_:=Aside0.mk ((by rw [hg];exact Nat.ne_of_lt (IsS45.lt (show IsS45 w0 _ g s0_0 s0_1 s0_2 from by repeat (first|(with_reducible first|exact HI0.out|apply IsS45.alloc|apply IsS45.drewN|apply IsS45.drew|apply IsS45.set_1|apply IsS45.set_2)|exact HI0.out))):g≠gb135));have n7_:=Aside0.mk ((by rw [hg];exact Nat.ne_of_gt (IsS45.lt (show IsS45 w0 _ g s0_0 s0_1 s0_2 from by repeat (first|(with_reducible first|exact HI0.out|apply IsS45.alloc|apply IsS45.drewN|apply IsS45.drew|apply IsS45.set_1|apply IsS45.set_2)|exact HI0.out))):gb135≠g));clear HI0;clear HK;clear HB;have HI0:=n0_;have HK:=n1_;have HB:=n2_;have BK135:=n3_;have GW135:=n4_;have GE135:=n5_;have NB0_135:=n6_;have NB135_0:=n7_;clear n0_ n1_ n2_ n3_ n4_ n5_ n6_ n7_;clear hb hbox hg)|((with_reducible refine gate_dst (N:=4) rfl ?_);refine box_event ?hg (N:=4) ?hd (cs:=#[.int .i64 0,.int .i64 0,.int .i64 0,.int .i64 0]) (t:=31) ?hr ?_;(case hd=>rfl);(case hg=>rfl);(case hr=>first|(go_simp;done)|(go_simp;rfl));intro gb136 hg w48 hbox hb;have n0_:=Aside0.mk (IsS45.below zz32 hb);have n1_:=Aside0.mk (blk_below (g:=gb135) (o:=.cells #[.int .i64 a1_0,.int .i64 a1_1,.int .i64 a1_2,.int .i64 a1_3] 31 (0,0)) zz6 hb);have n2_:=Aside0.mk (KeepBut.trans zz17 (KeepBut.of_below hb g none) (.inl rfl));have n3_:=Aside0.mk (below_step zz33 hb);have n4_:=Aside0.mk (hbox);have n5_:=Aside0.mk ((by rw [hg];exact (keep_size (w:=w) (g:=g) (row:=none) zz17):w.heap.size≤gb136));have n6_:=Aside0.mk ((Nat.le_trans HW0.out (by rw [hg];exact (keep_size (w:=w) (g:=g) (row:=none) zz17):w.heap.size≤gb136):w0.heap.size≤gb136));have n7_:=Aside0.mk ((by rw [hg];exact Nat.ne_of_lt (blk_lt (g:=gb135) (o:=.cells #[.int .i64 a1_0,.int .i64 a1_1,.int .i64 a1_2,.int .i64 a1_3] 31 (0,0)) zz6):gb135≠gb136));have n8_:=Aside0.mk ((by rw [hg];exact Nat.ne_of_gt (blk_lt (g:=gb135) (o:=.cells #[.int .i64 a1_0,.int .i64 a1_1,.int .i64 a1_2,.int .i64 a1_3] 31 (0,0)) zz6):gb136≠gb135));have n9_:=Aside0.mk ((by rw [hg];exact Nat.ne_of_lt (IsS45.lt (show IsS45 w0 _ g s0_0 s0_1 s0_2 from by repeat (first|(with_reducible first|exact HI0.out|apply IsS45.alloc|apply IsS45.drewN|apply IsS45.drew|apply IsS45.set_1|apply IsS45.set_2|refine IsS45.far ?_ NB0_135.out _)|exact HI0.out))):g≠gb136));have n10_:=Aside0.mk ((by rw [hg];exact Nat.ne_of_gt (IsS45.lt (show IsS45 w0 _ g s0_0 s0_1 s0_2 from by repeat (first|(with_reducible first|exact HI0.out|apply IsS45.alloc|apply IsS45.drewN|apply IsS45.drew|apply IsS45.set_1|apply IsS45.set_2|refine IsS45.far ?_ NB0_135.out _)|exact HI0.out))):gb136≠g));clear HI0;clear BK135;clear HK;clear HB;have HI0:=n0_;have BK135:=n1_;have HK:=n2_;have HB:=n3_;have BK136:=n4_;have GW136:=n5_;have GE136:=n6_;have NB135_136:=n7_;have NB136_135:=n8_;have NB0_136:=n9_;have NB136_0:=n10_;clear n0_ n1_ n2_ n3_ n4_ n5_ n6_ n7_ n8_ n9_ n10_;clear hb hbox hg)|((with_reducible refine gate_callee (f:=94) rfl ?_);refine zgo 6 Try.func94 #[.pointer (some ⟨g,0,none⟩),.int .i64 4] ?_;(with_reducible refine (spec_l1Cur_pick.calls g s0_0 s0_1 s0_2 4 t137 t138 t139 w0 _ ?side1 ?side2 A3.out).mono ?_);(case side1=>exact zz12);(case side2=>exact zz13);rintro e w49 ⟨rfl,hi,hb,hk⟩;refine ⟨_,rfl,?_⟩;replace BK135:=Aside0.mk (KeepBut.blk hk (g':=gb135) (o:=.cells #[.int .i64 a1_0,.int .i64 a1_1,.int .i64 a1_2,.int .i64 a1_3] 31 (0,0)) zz6 NB135_0.out (by simp));replace BK136:=Aside0.mk (KeepBut.blk hk (g':=gb136) (o:=.cells #[.int .i64 0,.int .i64 0,.int .i64 0,.int .i64 0] 31 (0,0)) zz18 NB136_0.out (by simp));replace HK:=Aside0.mk (KeepBut.trans zz10 hk (.inl rfl));replace HB:=Aside0.mk (hb);replace HI0:=Aside0.mk (hi);(try clear hb);(try clear hk);(try clear hi))|((with_reducible refine gate_dst (N:=8) rfl ?_);refine Kd.R_lit (Kd.int .i64) _ 3 ?hg (N:=8) ?hd (xs:=([(-1),500,501,(-9223372036854775808)]:List Int)) (inner:=[.int .i64 (-1),.int .i64 500,.int .i64 501,.int .i64 (-9223372036854775808)]) (ok:=fun _=>True) (okp:=fun _=>True) ?hr ?hp (fun _ hk=>hk) trivial (Below.refl _ _) (Nat.le_refl _) (by simp) ?_;(case hd=>rfl);(case hg=>rfl);(case hr=>first|(go_simp;done)|(go_simp;rfl));(case hp=>exact (Reps.one (show Kd.M (Kd.int .i64) _ _ _ (-1) [.int .i64 (-1)] from rfl) (Reps.one (show Kd.M (Kd.int .i64) _ _ _ 500 [.int .i64 500] from rfl) (Reps.one (show Kd.M (Kd.int .i64) _ _ _ 501 [.int .i64 501] from rfl) (Reps.one (show Kd.M (Kd.int .i64) _ _ _ (-9223372036854775808) [.int .i64 (-9223372036854775808)] from rfl) (Reps.none _ _))))));intro v159 w50 ho51 hb hg_ hnew_;clear hg_ hnew_;(first|rw [←Ny158.out] at ho51|(simp only [Int.reduceToNat] at ho51;rw [←Ny158.out] at ho51));have n0_:=Aside0.mk (Kd.R_lower ho51 (keep_size (w:=w) (g:=g) (row:=none) zz10));have n1_:=Aside0.mk (IsS45.below zz12 hb);have n2_:=Aside0.mk (blk_below (g:=gb135) (o:=.cells #[.int .i64 a1_0,.int .i64 a1_1,.int .i64 a1_2,.int .i64 a1_3] 31 (0,0)) zz6 hb);have n3_:=Aside0.mk (blk_below (g:=gb136) (o:=.cells #[.int .i64 0,.int .i64 0,.int .i64 0,.int .i64 0] 31 (0,0)) zz18 hb);have n4_:=Aside0.mk (KeepBut.trans zz10 (KeepBut.of_below hb g none) (.inl rfl));have n5_:=Aside0.mk (below_step zz13 hb);clear HI0;clear BK135;clear BK136;clear HK;clear HB;have HO160:=n0_;have HI0:=n1_;have BK135:=n2_;have BK136:=n3_;have HK:=n4_;have HB:=n5_;clear n0_ n1_ n2_ n3_ n4_ n5_;clear hb ho51;obtain ⟨Ao52,co52,eo52⟩:=Kd.R_slice HO160.out;subst eo52)|((with_reducible refine gate_callee (f:=55) rfl ?_);refine zgo 9 Try.func55 #[.pointer (some ⟨g,0,none⟩),.slice Ao52 y158.length co52] ?_;(with_reducible refine (spec_l1Cur_among.calls g s0_0 t138 t139 _ _ y158 t161 t162 t163 w0 _ ?side1 ?side2 ?side3 ?side4 ?side5 A46.out).mono ?_);(case side1=>exact zz12);(case side2=>exact zz13);(case side3=>exact zC ((Kd.R_reads' HO160.out).2.2));(case side4=>exact (Kd.R_reads' HO160.out).2.1);(case side5=>exact far_slice (IsS45.own_ne HI0.out HO160.out (by decide)));rintro e w53 ⟨rfl,hi,hb,hk⟩;refine ⟨_,rfl,?_⟩;replace BK135:=Aside0.mk (KeepBut.blk hk (g':=gb135) (o:=.cells #[.int .i64 a1_0,.int .i64 a1_1,.int .i64 a1_2,.int .i64 a1_3] 31 (0,0)) zz6 NB135_0.out (by simp));replace BK136:=Aside0.mk (KeepBut.blk hk (g':=gb136) (o:=.cells #[.int .i64 0,.int .i64 0,.int .i64 0,.int .i64 0] 31 (0,0)) zz18 NB136_0.out (by simp));replace HO160:=Aside0.mk (Kd.R_mono (Kd.R_keep (IsS45.apart (show IsS45 w0 _ g s0_0 t138 t139 from by repeat (first|(with_reducible first|exact HI0.out|apply IsS45.alloc|apply IsS45.drewN|apply IsS45.drew|apply IsS45.set_1|apply IsS45.set_2|refine IsS45.far ?_ NB0_135.out _|refine IsS45.far ?_ NB0_136.out _)|exact HI0.out)) (zR HO160.out) (by decide)) hk (fun _ h=>h.2)) (fun _ h=>h.1));replace HK:=Aside0.mk (KeepBut.trans zz10 hk (.inl rfl));replace HB:=Aside0.mk (hb);replace HI0:=Aside0.mk (hi);(try clear hb);(try clear hk);(try clear hi);have hnb54:=NB135_136.out;have hnc54:=NB136_135.out;have hnb55:=NB135_0.out;have hnc55:=NB0_135.out;obtain ⟨hcz56_0,hcz56_1,hcz56_2,hcz56_3,hfz56_0,hfz56_1,hfz56_2,hfz56_3⟩:=zk4 BK135.out;have hnb57:=NB136_0.out;have hnc57:=NB0_136.out;obtain ⟨hcz58_0,hcz58_1,hcz58_2,hcz58_3,hfz58_0,hfz58_1,hfz58_2,hfz58_3⟩:=zk4 BK136.out))
 refine bodyPost_ret (results_cell_row rfl _ _ gb136 31 #[.int .i64 a1_0,.int .i64 a1_1,.int .i64 a1_2,.int .i64 t161] (0,0) _ rfl (by (with_reducible repeat (first|refine blk_drewN ?_ _|refine blk_drew ?_|refine blk_alloc ?_ _));refine blk_put (cs:=#[.int .i64 a1_0,.int .i64 a1_1,.int .i64 a1_2,.int .i64 0]) ?_ 3 _ rfl;(with_reducible repeat (first|refine blk_drewN ?_ _|refine blk_drew ?_|refine blk_alloc ?_ _));refine blk_put (cs:=#[.int .i64 a1_0,.int .i64 a1_1,.int .i64 0,.int .i64 0]) ?_ 2 _ rfl;(with_reducible repeat (first|refine blk_drewN ?_ _|refine blk_drew ?_|refine blk_alloc ?_ _));refine blk_put (cs:=#[.int .i64 a1_0,.int .i64 0,.int .i64 0,.int .i64 0]) ?_ 1 _ rfl;(with_reducible repeat (first|refine blk_drewN ?_ _|refine blk_drew ?_|refine blk_alloc ?_ _));refine blk_put (cs:=#[.int .i64 0,.int .i64 0,.int .i64 0,.int .i64 0]) ?_ 0 _ rfl;(with_reducible repeat (first|refine blk_drewN ?_ _|refine blk_drew ?_|refine blk_alloc ?_ _));refine blk_far ?_ NB136_135.out _;(with_reducible repeat (first|refine blk_drewN ?_ _|refine blk_drew ?_|refine blk_alloc ?_ _));exact BK136.out) Try.underlying31 rfl (by kernel_rfl)) rfl ?_
 exact ⟨zz0,zz12,zz13,zz10⟩

end Go.Proofs.Ytkolecmpncaooaa.XFnLateWeight
-- minified
