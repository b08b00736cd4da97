-- Written by a program of this session (the kit's print, widened). Proved here: what each function answers, for the arguments that its contract names.
import Derived.Test.YtbcfmegepkhlpaaXFnSharedx0
import Derived.Test.YtbcfmegepkhlpaaXFnSharedx6
import Derived.Test.YtbcfmegepkhlpaaXFnSharedx7
import Derived.Test.YtbcfmegepkhlpaaXFnSharedx8
namespace Go.Proofs.Ytbcfmegepkhlpaa.XFnShared
open Go.RowKit Go.Proofs.YtbcfmegepkhlpaaW.PrintWords Go.Proofs.YtbcfmegepkhlpaaW.PrintLast Go.Proofs.YtbcfmegepkhlpaaW.PrintMore
attribute [local go_sem] max2_int min2_int max_two min_two max_three min_three max_four min_four   -- for this text's walks alone
attribute [local go_sem] idxA_72_0 idxA_72_1 fldS_96_0 fldS_96_1 fldS_96_2 fldS_111_0 fldS_111_1 fldS_111_2
set_option linter.unusedVariables false
set_option linter.unusedSimpArgs false

/-! ### spec_l1Cur_plain3: function 136 -/
def spec_l1Cur_plain3.l0:Nat→List (S76)→Int→List Int→Int→Int→Option ((List (S76)) × Int × Int)
 | 0,_,_,_,_,_=>none
 | k + 1,x3,x4,x1000,x1001,x1002=>if x4<(x3.length:Int) then (if 0≤x4 then ((some (x3.set (x4:Int).toNat (⟨(rd_T76 x3 x4).f0,(rd_T76 x3 x4).f1,0,(rd_T76 x3 x4).f3⟩:S76):List (S76))).bind fun y329=>(if x4>0 then ((spec_l1Cur_one.f x1000 x1001 x1002 3).bind fun bt330=>(if bt330.1=true then (if 0≤(wrap64 (x4 - 1)) then (if (wrap64 (x4 - 1))<(x3.length:Int) then ((some (y329.set (x4:Int).toNat (⟨(rd_T76 y329 (wrap64 (x4 - 1))).f0,(rd_T76 y329 x4).f1,(rd_T76 y329 x4).f2,(rd_T76 y329 x4).f3⟩:S76):List (S76))).bind fun y334=>(spec_l1Cur_plain3.l0 k (y334.set (x4:Int).toNat (⟨(rd_T76 y334 x4).f0,(rd_T76 y334 (wrap64 (x4 - 1))).f1,(rd_T76 y334 x4).f2,(rd_T76 y334 x4).f3⟩:S76)) (wrap64 (x4 + 1)) x1000 bt330.2.1 bt330.2.2)) else (none)) else (none)) else (spec_l1Cur_plain3.l0 k y329 (wrap64 (x4 + 1)) x1000 bt330.2.1 bt330.2.2))) else (spec_l1Cur_plain3.l0 k y329 (wrap64 (x4 + 1)) x1000 x1001 x1002))) else (none)) else (some (x3,x1001,x1002))
def spec_l1Cur_plain3.f (k:Nat) (s0_0:List Int) (s0_1:Int) (s0_2:Int):Option ((List (S76)) × Int × Int):=(spec_l1Cur_jobs.f k s0_0 s0_1 s0_2).bind fun bt321=>((spec_l1Cur_one.f s0_0 bt321.2.1 bt321.2.2 24).bind fun bt326=>(if bt326.1=true then (some (bt321.1,bt326.2.1,bt326.2.2)) else (spec_l1Cur_plain3.l0 k bt321.1 0 s0_0 bt326.2.1 bt326.2.2)))
theorem spec_l1Cur_plain3.mono_l:∀ k,(∀ y0 y1 y2 y3 y4,LeO (spec_l1Cur_plain3.l0 k y0 y1 y2 y3 y4) (spec_l1Cur_plain3.l0 (k + 1) y0 y1 y2 y3 y4))
 | 0=>fun _ _ _ _ _ r h=>by simp [spec_l1Cur_plain3.l0] at h
 | k + 1=>by
  have ih0:=spec_l1Cur_plain3.mono_l k
  ·intro y0 y1 y2 y3 y4
   unfold spec_l1Cur_plain3.l0
   repeat' first|(with_reducible first|apply ih0|exact spec_l1Cur_jobs.mono _ _ _ _|exact LeO.refl _|exact LeO.none _|refine LeO.ite ?_ ?_|refine LeO.bind ?_ (fun _=>?_))|apply ih0|exact spec_l1Cur_jobs.mono _ _ _ _|exact LeO.none _|refine LeO.ite ?_ ?_|refine LeO.bind ?_ (fun _=>?_)
theorem spec_l1Cur_plain3.mono:∀ a0 a1 a2 k,LeO (spec_l1Cur_plain3.f k a0 a1 a2) (spec_l1Cur_plain3.f (k + 1) a0 a1 a2):=by
 intro a0 a1 a2 k
 have ih0:=spec_l1Cur_plain3.mono_l k
 unfold spec_l1Cur_plain3.f
 repeat' first|(with_reducible first|apply ih0|exact spec_l1Cur_jobs.mono _ _ _ _|exact LeO.refl _|exact LeO.none _|refine LeO.ite ?_ ?_|refine LeO.bind ?_ (fun _=>?_))|apply ih0|exact spec_l1Cur_jobs.mono _ _ _ _|exact LeO.none _|refine LeO.ite ?_ ?_|refine LeO.bind ?_ (fun _=>?_)
set_option maxHeartbeats 8000000 in
set_option maxRecDepth 100000 in
theorem spec_l1Cur_plain3.calls (k:Nat) (g:Nat) (s0_0:List Int) (s0_1:Int) (s0_2:Int) (r1:List (S76)) (r2:Int) (r3:Int) (w0 w:World) (hI:IsS111 w0 w g s0_0 s0_1 s0_2) (hB:Below w0.heap.size w0 w) (h:spec_l1Cur_plain3.f k s0_0 s0_1 s0_2=some (r1,r2,r3)) :
  Calls Try.prog 136 #[.pointer (some ⟨g,0,none⟩)] w fun e w'=>∃ v0_:Value,e=.returned (v0_)∧Kd.R k76 76 w' w.heap.size (fun _=>True) v0_ r1∧IsS111 w0 w' g s0_0 r2 r3∧Below w0.heap.size w0 w'∧KeepBut w w' g none:=by
 have HI0:=Aside0.mk hI
 have HK:=Aside0.mk (KeepBut.refl w g none)
 have HL:=Aside0.mk hB.size
 clear hI
 have HW0:=Aside0.mk hB.size
 have HB:=Aside0.mk hB
 clear hB
 have H:((spec_l1Cur_jobs.f k s0_0 s0_1 s0_2).bind fun bt321=>((spec_l1Cur_one.f s0_0 bt321.2.1 bt321.2.2 24).bind fun bt326=>(if bt326.1=true then (some (bt321.1,bt326.2.1,bt326.2.2)) else (spec_l1Cur_plain3.l0 k bt321.1 0 s0_0 bt326.2.1 bt326.2.2))))=some (r1,r2,r3):=h
 clear h
 replace H:=Option.bind_eq_some_iff.mp H
 obtain ⟨⟨t321,t324,t325⟩,A20,H⟩:=H
 try dsimp only at H
 have A2:=Aside0.mk A20
 clear A20
 replace H:=Option.bind_eq_some_iff.mp H
 obtain ⟨⟨t326,t327,t328⟩,A30,H⟩:=H
 try dsimp only at H
 have A3:=Aside0.mk A30
 clear A30
 by_cases c4:t326=true
 ·subst c4
  rw [if_pos rfl] at H
  simp only [Option.some.injEq,Prod.mk.injEq] at H
  obtain ⟨rfl,rfl,rfl⟩:=H
  go_enter Try.func136,Try.ntmps136
  go_wp2_with (first|((with_reducible refine gate_callee (f:=163) rfl ?_);refine zgo 6 Try.func163 #[.pointer (some ⟨g,0,none⟩)] ?_;(with_reducible refine (spec_l1Cur_jobs.calls k g s0_0 s0_1 s0_2 t321 t324 t325 w0 _ ?side1 ?side2 A2.out).mono ?_);(case side1=>exact zz2);(case side2=>exact zz3);rintro e w5 ⟨v322,rfl,ho0,hi,hb,hk⟩;refine ⟨_,rfl,?_⟩;have HO323:=Aside0.mk (Kd.R_lower ho0 (keep_size (w:=w) (g:=g) (row:=none) zz0));replace HK:=Aside0.mk (KeepBut.trans zz0 hk (.inl rfl));replace HB:=Aside0.mk (hb);replace HI0:=Aside0.mk (hi);(try clear hb);(try clear hk);(try clear hi);(try clear ho0))|((with_reducible refine gate_callee (f:=137) rfl ?_);refine zgo 8 Try.func137 #[.pointer (some ⟨g,0,none⟩),.int .i64 24] ?_;(with_reducible refine (spec_l1Cur_one.calls g s0_0 t324 t325 24 true t327 t328 w0 _ ?side1 ?side2 A3.out).mono ?_);(case side1=>exact zz2);(case side2=>exact zz3);rintro e w6 ⟨rfl,hi,hb,hk⟩;refine ⟨_,rfl,?_⟩;replace HO323:=Aside0.mk (Kd.R_mono (Kd.R_keep (IsS111.apart (show IsS111 w0 _ g s0_0 t324 t325 from by repeat (first|(with_reducible first|exact HI0.out|apply IsS111.alloc|apply IsS111.drewN|apply IsS111.drew|apply IsS111.set_1|apply IsS111.set_2)|exact HI0.out)) (zR HO323.out) (by decide)) hk (fun _ h=>h.2)) (fun _ h=>h.1));replace HK:=Aside0.mk (KeepBut.trans zz0 hk (.inl rfl));replace HB:=Aside0.mk (hb);replace HI0:=Aside0.mk (hi);(try clear hb);(try clear hk);(try clear hi)))
  go_ret
  exact ⟨_,zz1,zR HO323.out,zz2,zz3,zz0⟩
 replace c4:=Bool.eq_false_iff.mpr c4
 subst c4
 rw [if_neg (show ¬ (false=true) by decide)] at H
 have H':=Aside0.mk H
 clear H
 go_enter Try.func136,Try.ntmps136
 go_wp2_with (first|((with_reducible refine gate_callee (f:=163) rfl ?_);refine zgo 6 Try.func163 #[.pointer (some ⟨g,0,none⟩)] ?_;(with_reducible refine (spec_l1Cur_jobs.calls k g s0_0 s0_1 s0_2 t321 t324 t325 w0 _ ?side1 ?side2 A2.out).mono ?_);(case side1=>exact zz2);(case side2=>exact zz3);rintro e w7 ⟨v322,rfl,ho0,hi,hb,hk⟩;refine ⟨_,rfl,?_⟩;have HO323:=Aside0.mk (Kd.R_lower ho0 (keep_size (w:=w) (g:=g) (row:=none) zz0));replace HK:=Aside0.mk (KeepBut.trans zz0 hk (.inl rfl));replace HB:=Aside0.mk (hb);replace HI0:=Aside0.mk (hi);(try clear hb);(try clear hk);(try clear hi);(try clear ho0))|((with_reducible refine gate_callee (f:=137) rfl ?_);refine zgo 8 Try.func137 #[.pointer (some ⟨g,0,none⟩),.int .i64 24] ?_;(with_reducible refine (spec_l1Cur_one.calls g s0_0 t324 t325 24 false t327 t328 w0 _ ?side1 ?side2 A3.out).mono ?_);(case side1=>exact zz2);(case side2=>exact zz3);rintro e w8 ⟨rfl,hi,hb,hk⟩;refine ⟨_,rfl,?_⟩;replace HO323:=Aside0.mk (Kd.R_mono (Kd.R_keep (IsS111.apart (show IsS111 w0 _ g s0_0 t324 t325 from by repeat (first|(with_reducible first|exact HI0.out|apply IsS111.alloc|apply IsS111.drewN|apply IsS111.drew|apply IsS111.set_1|apply IsS111.set_2)|exact HI0.out)) (zR HO323.out) (by decide)) hk (fun _ h=>h.2)) (fun _ h=>h.1));replace HK:=Aside0.mk (KeepBut.trans zz0 hk (.inl rfl));replace HB:=Aside0.mk (hb);replace HI0:=Aside0.mk (hi);(try clear hb);(try clear hk);(try clear hi)))
 try simp only [Act.put,List.setIfInBounds_toArray,List.set_cons_succ,List.set_cons_zero]
 go_loopg [4] k (fun kq v4 w'=>∃ (x3_1:List (S76)) (x4_1:Int) (x1001_1:Int) (x1002_1:Int),v4=.int .i64 x4_1∧Aside0 (spec_l1Cur_plain3.l0 kq x3_1 x4_1 s0_0 x1001_1 x1002_1=some (r1,r2,r3))∧Aside0 (kq≤k)∧Aside0 (Kd.R k76 76 w' w.heap.size (fun _=>True) v322 x3_1)∧Aside0 (IsS111 w0 w' g s0_0 x1001_1 x1002_1)∧Aside0 (KeepBut w w' g none)∧Aside0 (Below w0.heap.size w0 w'))
 case atStart=>exact ⟨(t321),(0),(t327),(t328),zo,H',⟨Nat.le_refl _⟩,⟨zR HO323.out⟩,⟨zz2⟩,⟨zz0⟩,⟨zz3⟩⟩
 case round=>
  clear H'
  obtain ⟨x3_1,x4_1,x1001_1,x1002_1,rfl,HA,HK1,HO_3,HI0,HK,HB⟩:=hrel
  cases gk with
  | zero=>exact absurd HA.out (by simp [spec_l1Cur_plain3.l0])
  | succ k1=>
   have H:=HA.out
   clear HA
   simp only [spec_l1Cur_plain3.l0] at H
   by_cases c9:x4_1<(x3_1.length:Int)
   rotate_left
   ·rw [if_neg c9] at H
    have c9b0:=decide_eq_false c9
    clear c9
    simp only [Option.some.injEq,Prod.mk.injEq] at H
    obtain ⟨rfl,rfl,rfl⟩:=H
    obtain ⟨Ao35,co35,eo35⟩:=Kd.R_slice HO_3.out
    subst eo35
    go_wp2
    go_ret
    exact ⟨_,zz1,zR HO_3.out,zz2,zz3,zz0⟩
   rw [if_pos c9] at H
   have c9b0:=decide_eq_true c9
   clear c9
   by_cases c10:0≤x4_1
   rotate_left
   ·rw [if_neg c10] at H
    exact absurd H (by simp)
   rw [if_pos c10] at H
   have c10b0:=decide_eq_true c10
   clear c10
   obtain ⟨y329,hy329⟩:∃ y_:List (S76),y_=(x3_1.set (x4_1:Int).toNat (⟨(rd_T76 x3_1 x4_1).f0,(rd_T76 x3_1 x4_1).f1,0,(rd_T76 x3_1 x4_1).f3⟩:S76)):=⟨_,rfl⟩
   replace H:(if x4_1>0 then ((spec_l1Cur_one.f s0_0 x1001_1 x1002_1 3).bind fun bt330=>(if bt330.1=true then (if 0≤(wrap64 (x4_1 - 1)) then (if (wrap64 (x4_1 - 1))<(x3_1.length:Int) then ((some (y329.set (x4_1:Int).toNat (⟨(rd_T76 y329 (wrap64 (x4_1 - 1))).f0,(rd_T76 y329 x4_1).f1,(rd_T76 y329 x4_1).f2,(rd_T76 y329 x4_1).f3⟩:S76):List (S76))).bind fun y334=>(spec_l1Cur_plain3.l0 k1 (y334.set (x4_1:Int).toNat (⟨(rd_T76 y334 x4_1).f0,(rd_T76 y334 (wrap64 (x4_1 - 1))).f1,(rd_T76 y334 x4_1).f2,(rd_T76 y334 x4_1).f3⟩:S76)) (wrap64 (x4_1 + 1)) s0_0 bt330.2.1 bt330.2.2)) else (none)) else (none)) else (spec_l1Cur_plain3.l0 k1 y329 (wrap64 (x4_1 + 1)) s0_0 bt330.2.1 bt330.2.2))) else (spec_l1Cur_plain3.l0 k1 y329 (wrap64 (x4_1 + 1)) s0_0 x1001_1 x1002_1))=some (r1,r2,r3):=by first|(rw [hy329];with_reducible exact H)|(have H2_:=(Option.bind_some _ _).symm.trans H;rw [hy329];with_reducible exact H2_)|(have H2_:=(Option.bind_some _ _).symm.trans H;with_reducible exact H2_)|with_reducible exact H|(rw [hy329];exact H)|exact H
   have Ny329:=Aside0.mk hy329
   clear hy329
   by_cases c12:x4_1>0
   rotate_left
   ·rw [if_neg c12] at H
    have c12b0:=decide_eq_false c12
    clear c12
    have H':=Aside0.mk H
    clear H
    obtain ⟨Ao32,co32,eo32⟩:=Kd.R_slice HO_3.out
    subst eo32
    have p11:0≤(x4_1:Int):=of_decide_eq_true za
    have q11:(x4_1:Int)<((x3_1.length:Int):Int):=of_decide_eq_true za
    obtain ⟨go11,co11,eo11,gb11,gl11,cl11,HG11⟩:=Kd.R_form HO_3.out (by omega)
    (first|cases eo11|(injection eo11 with ea_ en_ ec_;(first|subst ea_|(injection ea_ with ea_;subst ea_));subst ec_;clear en_))
    have GB11:=Aside0.mk gb11
    have GG11:=Aside0.mk HG11
    clear gb11 gl11 HG11
    obtain ⟨ce11,hcl11,hM11,hcc11,hfr11⟩:=Kd.R_elem HO_3.out z76 (x4_1:Int) p11 q11
    obtain rfl:=k76_openM hM11
    have hx11_0:wr.cell? ⟨go11,(x4_1:Int).toNat * 4,none⟩=some (.int .i64 ((rd_T76 x3_1 x4_1).f0)):=hcc11 0 _ rfl
    have hx11_1:wr.cell? ⟨go11,(x4_1:Int).toNat * 4 + 1,none⟩=some (.int .i64 ((rd_T76 x3_1 x4_1).f1)):=hcc11 1 _ rfl
    have hx11_2:wr.cell? ⟨go11,(x4_1:Int).toNat * 4 + 2,none⟩=some (.int .i64 ((rd_T76 x3_1 x4_1).f2)):=hcc11 2 _ rfl
    have hx11_3:wr.cell? ⟨go11,(x4_1:Int).toNat * 4 + 3,none⟩=some (.int .i64 ((rd_T76 x3_1 x4_1).f3)):=hcc11 3 _ rfl
    have hf11_0:wr.frozen? ⟨go11,(x4_1:Int).toNat * 4,none⟩=false:=hfr11 0
    have hf11_1:wr.frozen? ⟨go11,(x4_1:Int).toNat * 4 + 1,none⟩=false:=hfr11 1
    have hf11_2:wr.frozen? ⟨go11,(x4_1:Int).toNat * 4 + 2,none⟩=false:=hfr11 2
    have hf11_3:wr.frozen? ⟨go11,(x4_1:Int).toNat * 4 + 3,none⟩=false:=hfr11 3
    (clear hcl11 hcc11 hfr11;(try clear hM11))
    replace p11:=eq_true p11
    replace q11:=eq_true q11
    have HX33:=Aside0.mk (show Kd.R k76 76 wr w.heap.size (fun _=>True) (.slice (some ⟨go11,0,none⟩) x3_1.length co32) x3_1 from (zR HO_3.out))
    obtain ⟨ce33,hcl33,hM33,hcc33,hfr33⟩:=Kd.R_elem HX33.out z76 (x4_1:Int) (of_decide_eq_true za) (by have h_:(x4_1:Int)<((x3_1.length:Int):Int):=of_decide_eq_true za;first|exact h_|(have e_:=(Kd.R_reads' HO_3.out).1;omega)|simpa using h_)
    obtain rfl:=k76_openM hM33
    have HP33:=Kd.R_seg HX33.out (x4_1:Int) (of_decide_eq_true za) (by have h_:(x4_1:Int)<((x3_1.length:Int):Int):=of_decide_eq_true za;first|exact h_|(have e_:=(Kd.R_reads' HO_3.out).1;omega)|simpa using h_) (seg:=[.int .i64 0]) (j:=2) hcl33 hcc33 (show 3≤4 from by decide) (x':=(⟨(rd_T76 x3_1 x4_1).f0,(rd_T76 x3_1 x4_1).f1,0,(rd_T76 x3_1 x4_1).f3⟩:S76)) (k76_mkM _ _ _ (⟨(rd_T76 x3_1 x4_1).f0,(rd_T76 x3_1 x4_1).f1,0,(rd_T76 x3_1 x4_1).f3⟩:S76)) (fun _ hk=>hk)
    have hx33_2:=hcc33 2 _ rfl
    (try simp only [show (k76).sz=4 from rfl,Nat.mul_one,Nat.add_zero] at hx33_2)
    have hf33_2:=hfr33 2
    (try simp only [show (k76).sz=4 from rfl,Nat.mul_one,Nat.add_zero] at hf33_2)
    (clear hcl33 hcc33 hfr33;(try clear hM33))
    go_wp2_with (first|((with_reducible refine gate_store (t:=3) (p:=19) rfl ?_);(try (rw [drewN_self wr];generalize hq_:World.drewN wr _=wr;have n0_:=Aside0.mk (Kd.R_at hq_ HO_3.out);have n1_:=Aside0.mk (IsS111.at_ hq_ HI0.out);have n2_:=Aside0.mk (keep_at hq_ HK.out);have n3_:=Aside0.mk (below_at hq_ HB.out);(try replace hx11_0:=cell_at hq_ hx11_0);(try replace hx11_1:=cell_at hq_ hx11_1);(try replace hx11_2:=cell_at hq_ hx11_2);(try replace hx11_3:=cell_at hq_ hx11_3);(try replace hf11_0:=(fun {W_ W2_:World} {n_:Nat} {a_:Addr} {b_:Bool} (h_:W_.drewN n_=W2_) (e_:W_.frozen? a_=b_)=>(by subst h_;exact e_:W2_.frozen? a_=b_)) hq_ hf11_0);(try replace hf11_1:=(fun {W_ W2_:World} {n_:Nat} {a_:Addr} {b_:Bool} (h_:W_.drewN n_=W2_) (e_:W_.frozen? a_=b_)=>(by subst h_;exact e_:W2_.frozen? a_=b_)) hq_ hf11_1);(try replace hf11_2:=(fun {W_ W2_:World} {n_:Nat} {a_:Addr} {b_:Bool} (h_:W_.drewN n_=W2_) (e_:W_.frozen? a_=b_)=>(by subst h_;exact e_:W2_.frozen? a_=b_)) hq_ hf11_2);(try replace hf11_3:=(fun {W_ W2_:World} {n_:Nat} {a_:Addr} {b_:Bool} (h_:W_.drewN n_=W2_) (e_:W_.frozen? a_=b_)=>(by subst h_;exact e_:W2_.frozen? a_=b_)) hq_ hf11_3);(try replace hx33_2:=cell_at hq_ hx33_2);(try replace hf33_2:=(fun {W_ W2_:World} {n_:Nat} {a_:Addr} {b_:Bool} (h_:W_.drewN n_=W2_) (e_:W_.frozen? a_=b_)=>(by subst h_;exact e_:W2_.frozen? a_=b_)) hq_ hf33_2);clear hq_ HO_3 HI0 HK HB;have HO_3:=n0_;have HI0:=n1_;have HK:=n2_;have HB:=n3_;clear n0_ n1_ n2_ n3_;(try (have HX33:=Aside0.mk (show Kd.R k76 76 wr w.heap.size (fun _=>True) (.slice (some ⟨go11,0,none⟩) x3_1.length co32) x3_1 from (zR HO_3.out))));(try (obtain ⟨ce33,hcl33,hM33,hcc33,hfr33⟩:=Kd.R_elem HX33.out z76 (x4_1:Int) (of_decide_eq_true za) (by have h_:(x4_1:Int)<((x3_1.length:Int):Int):=of_decide_eq_true za;first|exact h_|(have e_:=(Kd.R_reads' HO_3.out).1;omega)|simpa using h_)));(try (obtain rfl:=k76_openM hM33));(try (have HP33:=Kd.R_seg HX33.out (x4_1:Int) (of_decide_eq_true za) (by have h_:(x4_1:Int)<((x3_1.length:Int):Int):=of_decide_eq_true za;first|exact h_|(have e_:=(Kd.R_reads' HO_3.out).1;omega)|simpa using h_) (seg:=[.int .i64 0]) (j:=2) hcl33 hcc33 (show 3≤4 from by decide) (x':=(⟨(rd_T76 x3_1 x4_1).f0,(rd_T76 x3_1 x4_1).f1,0,(rd_T76 x3_1 x4_1).f3⟩:S76)) (k76_mkM _ _ _ (⟨(rd_T76 x3_1 x4_1).f0,(rd_T76 x3_1 x4_1).f1,0,(rd_T76 x3_1 x4_1).f3⟩:S76)) (fun _ hk=>hk)));(try (have hx33_2:=hcc33 2 _ rfl));(try (try simp only [show (k76).sz=4 from rfl,Nat.mul_one,Nat.add_zero] at hx33_2));(try (have hf33_2:=hfr33 2));(try (try simp only [show (k76).sz=4 from rfl,Nat.mul_one,Nat.add_zero] at hf33_2));(try (clear hcl33 hcc33 hfr33;(try clear hM33)))));refine store_event (t:=3) (p:=19) (v:=?vo_w34) (w1:=(wr.setCell ⟨go11,(x4_1:Int).toNat * 4 + 2,none⟩ (.int .i64 0))) ?hg ?ho ?hn ?hr ?_;(case ho=>rfl);(case hg=>rfl);(case hn=>rfl);(case hr=>first|(go_simp;done)|(go_simp;rfl));intro w34 hw;have hg:wr.grownBy w34 (some go11):=(by rw [hw];exact HP33.2);have hp_:Kd.R k76 76 w34 w.heap.size (fun _=>True) (.slice (some ⟨go11,0,none⟩) x3_1.length co32) y329:=(by rw [hw,Ny329.out];exact HP33.1);clear HP33;have n0_:=Aside0.mk (hp_);have n1_:=Aside0.mk (IsS111.grown zz2 hg (IsS111.own_ne HI0.out HO_3.out (by decide)));have n2_:=Aside0.mk ((by rw [hw];exact below_set (HB.out) (Nat.le_trans HL.out GB11.out):Below w0.heap.size w0 w34));have n3_:=Aside0.mk (KeepBut.trans zz0 (KeepBut.of_grown hg g) (Kd.R_base2 HO_3.out));clear HO_3;clear HI0;clear HB;clear HK;have HO_3:=n0_;have HI0:=n1_;have HB:=n2_;have HK:=n3_;clear n0_ n1_ n2_ n3_;clear hg hw hp_))
    go_roundg k1
    case measure=>have:=HK1.out;omega
    case rel=>exact ⟨(y329),(wrap64 (x4_1 + 1)),(x1001_1),(x1002_1),zo,H',⟨by have:=HK1.out;omega⟩,⟨zR HO_3.out⟩,⟨zz2⟩,⟨zz0⟩,⟨zz3⟩⟩
   rw [if_pos c12] at H
   have c12b0:=decide_eq_true c12
   clear c12
   replace H:=Option.bind_eq_some_iff.mp H
   obtain ⟨⟨t330,t331,t332⟩,A130,H⟩:=H
   try dsimp only at H
   have A13:=Aside0.mk A130
   clear A130
   by_cases c14:t330=true
   rotate_left
   ·replace c14:=Bool.eq_false_iff.mpr c14
    subst c14
    rw [if_neg (show ¬ (false=true) by decide)] at H
    have H':=Aside0.mk H
    clear H
    obtain ⟨Ao28,co28,eo28⟩:=Kd.R_slice HO_3.out
    subst eo28
    have p11:0≤(x4_1:Int):=of_decide_eq_true za
    have q11:(x4_1:Int)<((x3_1.length:Int):Int):=of_decide_eq_true za
    obtain ⟨go11,co11,eo11,gb11,gl11,cl11,HG11⟩:=Kd.R_form HO_3.out (by omega)
    (first|cases eo11|(injection eo11 with ea_ en_ ec_;(first|subst ea_|(injection ea_ with ea_;subst ea_));subst ec_;clear en_))
    have GB11:=Aside0.mk gb11
    have GG11:=Aside0.mk HG11
    clear gb11 gl11 HG11
    obtain ⟨ce11,hcl11,hM11,hcc11,hfr11⟩:=Kd.R_elem HO_3.out z76 (x4_1:Int) p11 q11
    obtain rfl:=k76_openM hM11
    have hx11_0:wr.cell? ⟨go11,(x4_1:Int).toNat * 4,none⟩=some (.int .i64 ((rd_T76 x3_1 x4_1).f0)):=hcc11 0 _ rfl
    have hx11_1:wr.cell? ⟨go11,(x4_1:Int).toNat * 4 + 1,none⟩=some (.int .i64 ((rd_T76 x3_1 x4_1).f1)):=hcc11 1 _ rfl
    have hx11_2:wr.cell? ⟨go11,(x4_1:Int).toNat * 4 + 2,none⟩=some (.int .i64 ((rd_T76 x3_1 x4_1).f2)):=hcc11 2 _ rfl
    have hx11_3:wr.cell? ⟨go11,(x4_1:Int).toNat * 4 + 3,none⟩=some (.int .i64 ((rd_T76 x3_1 x4_1).f3)):=hcc11 3 _ rfl
    have hf11_0:wr.frozen? ⟨go11,(x4_1:Int).toNat * 4,none⟩=false:=hfr11 0
    have hf11_1:wr.frozen? ⟨go11,(x4_1:Int).toNat * 4 + 1,none⟩=false:=hfr11 1
    have hf11_2:wr.frozen? ⟨go11,(x4_1:Int).toNat * 4 + 2,none⟩=false:=hfr11 2
    have hf11_3:wr.frozen? ⟨go11,(x4_1:Int).toNat * 4 + 3,none⟩=false:=hfr11 3
    (clear hcl11 hcc11 hfr11;(try clear hM11))
    replace p11:=eq_true p11
    replace q11:=eq_true q11
    have HX29:=Aside0.mk (show Kd.R k76 76 wr w.heap.size (fun _=>True) (.slice (some ⟨go11,0,none⟩) x3_1.length co28) x3_1 from (zR HO_3.out))
    obtain ⟨ce29,hcl29,hM29,hcc29,hfr29⟩:=Kd.R_elem HX29.out z76 (x4_1:Int) (of_decide_eq_true za) (by have h_:(x4_1:Int)<((x3_1.length:Int):Int):=of_decide_eq_true za;first|exact h_|(have e_:=(Kd.R_reads' HO_3.out).1;omega)|simpa using h_)
    obtain rfl:=k76_openM hM29
    have HP29:=Kd.R_seg HX29.out (x4_1:Int) (of_decide_eq_true za) (by have h_:(x4_1:Int)<((x3_1.length:Int):Int):=of_decide_eq_true za;first|exact h_|(have e_:=(Kd.R_reads' HO_3.out).1;omega)|simpa using h_) (seg:=[.int .i64 0]) (j:=2) hcl29 hcc29 (show 3≤4 from by decide) (x':=(⟨(rd_T76 x3_1 x4_1).f0,(rd_T76 x3_1 x4_1).f1,0,(rd_T76 x3_1 x4_1).f3⟩:S76)) (k76_mkM _ _ _ (⟨(rd_T76 x3_1 x4_1).f0,(rd_T76 x3_1 x4_1).f1,0,(rd_T76 x3_1 x4_1).f3⟩:S76)) (fun _ hk=>hk)
    have hx29_2:=hcc29 2 _ rfl
    (try simp only [show (k76).sz=4 from rfl,Nat.mul_one,Nat.add_zero] at hx29_2)
    have hf29_2:=hfr29 2
    (try simp only [show (k76).sz=4 from rfl,Nat.mul_one,Nat.add_zero] at hf29_2)
    (clear hcl29 hcc29 hfr29;(try clear hM29))
    go_wp2_with (first|((with_reducible refine gate_store (t:=3) (p:=19) rfl ?_);(try (rw [drewN_self wr];generalize hq_:World.drewN wr _=wr;have n0_:=Aside0.mk (Kd.R_at hq_ HO_3.out);have n1_:=Aside0.mk (IsS111.at_ hq_ HI0.out);have n2_:=Aside0.mk (keep_at hq_ HK.out);have n3_:=Aside0.mk (below_at hq_ HB.out);(try replace hx11_0:=cell_at hq_ hx11_0);(try replace hx11_1:=cell_at hq_ hx11_1);(try replace hx11_2:=cell_at hq_ hx11_2);(try replace hx11_3:=cell_at hq_ hx11_3);(try replace hf11_0:=(fun {W_ W2_:World} {n_:Nat} {a_:Addr} {b_:Bool} (h_:W_.drewN n_=W2_) (e_:W_.frozen? a_=b_)=>(by subst h_;exact e_:W2_.frozen? a_=b_)) hq_ hf11_0);(try replace hf11_1:=(fun {W_ W2_:World} {n_:Nat} {a_:Addr} {b_:Bool} (h_:W_.drewN n_=W2_) (e_:W_.frozen? a_=b_)=>(by subst h_;exact e_:W2_.frozen? a_=b_)) hq_ hf11_1);(try replace hf11_2:=(fun {W_ W2_:World} {n_:Nat} {a_:Addr} {b_:Bool} (h_:W_.drewN n_=W2_) (e_:W_.frozen? a_=b_)=>(by subst h_;exact e_:W2_.frozen? a_=b_)) hq_ hf11_2);(try replace hf11_3:=(fun {W_ W2_:World} {n_:Nat} {a_:Addr} {b_:Bool} (h_:W_.drewN n_=W2_) (e_:W_.frozen? a_=b_)=>(by subst h_;exact e_:W2_.frozen? a_=b_)) hq_ hf11_3);(try replace hx29_2:=cell_at hq_ hx29_2);(try replace hf29_2:=(fun {W_ W2_:World} {n_:Nat} {a_:Addr} {b_:Bool} (h_:W_.drewN n_=W2_) (e_:W_.frozen? a_=b_)=>(by subst h_;exact e_:W2_.frozen? a_=b_)) hq_ hf29_2);clear hq_ HO_3 HI0 HK HB;have HO_3:=n0_;have HI0:=n1_;have HK:=n2_;have HB:=n3_;clear n0_ n1_ n2_ n3_;(try (have HX29:=Aside0.mk (show Kd.R k76 76 wr w.heap.size (fun _=>True) (.slice (some ⟨go11,0,none⟩) x3_1.length co28) x3_1 from (zR HO_3.out))));(try (obtain ⟨ce29,hcl29,hM29,hcc29,hfr29⟩:=Kd.R_elem HX29.out z76 (x4_1:Int) (of_decide_eq_true za) (by have h_:(x4_1:Int)<((x3_1.length:Int):Int):=of_decide_eq_true za;first|exact h_|(have e_:=(Kd.R_reads' HO_3.out).1;omega)|simpa using h_)));(try (obtain rfl:=k76_openM hM29));(try (have HP29:=Kd.R_seg HX29.out (x4_1:Int) (of_decide_eq_true za) (by have h_:(x4_1:Int)<((x3_1.length:Int):Int):=of_decide_eq_true za;first|exact h_|(have e_:=(Kd.R_reads' HO_3.out).1;omega)|simpa using h_) (seg:=[.int .i64 0]) (j:=2) hcl29 hcc29 (show 3≤4 from by decide) (x':=(⟨(rd_T76 x3_1 x4_1).f0,(rd_T76 x3_1 x4_1).f1,0,(rd_T76 x3_1 x4_1).f3⟩:S76)) (k76_mkM _ _ _ (⟨(rd_T76 x3_1 x4_1).f0,(rd_T76 x3_1 x4_1).f1,0,(rd_T76 x3_1 x4_1).f3⟩:S76)) (fun _ hk=>hk)));(try (have hx29_2:=hcc29 2 _ rfl));(try (try simp only [show (k76).sz=4 from rfl,Nat.mul_one,Nat.add_zero] at hx29_2));(try (have hf29_2:=hfr29 2));(try (try simp only [show (k76).sz=4 from rfl,Nat.mul_one,Nat.add_zero] at hf29_2));(try (clear hcl29 hcc29 hfr29;(try clear hM29)))));refine store_event (t:=3) (p:=19) (v:=?vo_w30) (w1:=(wr.setCell ⟨go11,(x4_1:Int).toNat * 4 + 2,none⟩ (.int .i64 0))) ?hg ?ho ?hn ?hr ?_;(case ho=>rfl);(case hg=>rfl);(case hn=>rfl);(case hr=>first|(go_simp;done)|(go_simp;rfl));intro w30 hw;have hg:wr.grownBy w30 (some go11):=(by rw [hw];exact HP29.2);have hp_:Kd.R k76 76 w30 w.heap.size (fun _=>True) (.slice (some ⟨go11,0,none⟩) x3_1.length co28) y329:=(by rw [hw,Ny329.out];exact HP29.1);clear HP29;have n0_:=Aside0.mk (hp_);have n1_:=Aside0.mk (IsS111.grown zz2 hg (IsS111.own_ne HI0.out HO_3.out (by decide)));have n2_:=Aside0.mk ((by rw [hw];exact below_set (HB.out) (Nat.le_trans HL.out GB11.out):Below w0.heap.size w0 w30));have n3_:=Aside0.mk (KeepBut.trans zz0 (KeepBut.of_grown hg g) (Kd.R_base2 HO_3.out));clear HO_3;clear HI0;clear HB;clear HK;have HO_3:=n0_;have HI0:=n1_;have HB:=n2_;have HK:=n3_;clear n0_ n1_ n2_ n3_;clear hg hw hp_)|(go_at_call 137;(with_reducible refine (spec_l1Cur_one.calls g s0_0 x1001_1 x1002_1 3 false t331 t332 w0 _ ?side1 ?side2 A13.out).mono ?_);(case side1=>exact zz2);(case side2=>exact zz3);rintro e w31 ⟨rfl,hi,hb,hk⟩;replace HO_3:=Aside0.mk (Kd.R_mono (Kd.R_keep (IsS111.apart (show IsS111 w0 _ g s0_0 x1001_1 x1002_1 from by repeat (first|(with_reducible first|exact HI0.out|apply IsS111.alloc|apply IsS111.drewN|apply IsS111.drew|apply IsS111.set_1|apply IsS111.set_2)|exact HI0.out)) (zR HO_3.out) (by decide)) hk (fun _ h=>h.2)) (fun _ h=>h.1));replace HK:=Aside0.mk (KeepBut.trans zz0 hk (.inl rfl));replace HB:=Aside0.mk (hb);replace HI0:=Aside0.mk (hi);(try clear hb);(try clear hk);(try clear hi)))
    go_roundg k1
    case measure=>have:=HK1.out;omega
    case rel=>exact ⟨(y329),(wrap64 (x4_1 + 1)),(t331),(t332),zo,H',⟨by have:=HK1.out;omega⟩,⟨zR HO_3.out⟩,⟨zz2⟩,⟨zz0⟩,⟨zz3⟩⟩
   subst c14
   rw [if_pos rfl] at H
   obtain ⟨ji15,hji15⟩:∃ j_:Int,(wrap64 (x4_1 - 1))=j_:=⟨_,rfl⟩
   replace H:(if 0≤(ji15) then (if (ji15)<(x3_1.length:Int) then ((some (y329.set (x4_1:Int).toNat (⟨(rd_T76 y329 (ji15)).f0,(rd_T76 y329 x4_1).f1,(rd_T76 y329 x4_1).f2,(rd_T76 y329 x4_1).f3⟩:S76):List (S76))).bind fun y334=>(spec_l1Cur_plain3.l0 k1 (y334.set (x4_1:Int).toNat (⟨(rd_T76 y334 x4_1).f0,(rd_T76 y334 (ji15)).f1,(rd_T76 y334 x4_1).f2,(rd_T76 y334 x4_1).f3⟩:S76)) (wrap64 (x4_1 + 1)) s0_0 t331 t332)) else (none)) else (none))=some (r1,r2,r3):=by first|(rw [hji15] at H;exact H)|(simp only [hji15] at H ⊢;exact H)
   (try rw [hji15] at A13)
   have hji15w:(IntKind.i64.wrap (x4_1 - 1))=ji15:=(i64_w _).trans hji15
   by_cases c16:0≤(ji15)
   rotate_left
   ·rw [if_neg c16] at H
    exact absurd H (by simp)
   rw [if_pos c16] at H
   have c16b0:=decide_eq_true c16
   clear c16
   by_cases c17:(ji15)<(x3_1.length:Int)
   rotate_left
   ·rw [if_neg c17] at H
    exact absurd H (by simp)
   rw [if_pos c17] at H
   have c17b0:=decide_eq_true c17
   clear c17
   obtain ⟨y334,hy334⟩:∃ y_:List (S76),y_=(y329.set (x4_1:Int).toNat (⟨(rd_T76 y329 (ji15)).f0,(rd_T76 y329 x4_1).f1,(rd_T76 y329 x4_1).f2,(rd_T76 y329 x4_1).f3⟩:S76)):=⟨_,rfl⟩
   replace H:(spec_l1Cur_plain3.l0 k1 (y334.set (x4_1:Int).toNat (⟨(rd_T76 y334 x4_1).f0,(rd_T76 y334 (ji15)).f1,(rd_T76 y334 x4_1).f2,(rd_T76 y334 x4_1).f3⟩:S76)) (wrap64 (x4_1 + 1)) s0_0 t331 t332)=some (r1,r2,r3):=by first|(rw [hy334];with_reducible exact H)|(have H2_:=(Option.bind_some _ _).symm.trans H;rw [hy334];with_reducible exact H2_)|(have H2_:=(Option.bind_some _ _).symm.trans H;with_reducible exact H2_)|with_reducible exact H|(rw [hy334];exact H)|exact H
   have Ny334:=Aside0.mk hy334
   clear hy334
   obtain ⟨y336,hy336⟩:∃ y_:List (S76),y_=(y334.set (x4_1:Int).toNat (⟨(rd_T76 y334 x4_1).f0,(rd_T76 y334 (ji15)).f1,(rd_T76 y334 x4_1).f2,(rd_T76 y334 x4_1).f3⟩:S76)):=⟨_,rfl⟩
   replace H:(spec_l1Cur_plain3.l0 k1 y336 (wrap64 (x4_1 + 1)) s0_0 t331 t332)=some (r1,r2,r3):=by first|(rw [hy336];with_reducible exact H)|(have H2_:=(Option.bind_some _ _).symm.trans H;rw [hy336];with_reducible exact H2_)|(have H2_:=(Option.bind_some _ _).symm.trans H;with_reducible exact H2_)|with_reducible exact H|(rw [hy336];exact H)|exact H
   have Ny336:=Aside0.mk hy336
   clear hy336
   have H':=Aside0.mk H
   clear H
   obtain ⟨Ao20,co20,eo20⟩:=Kd.R_slice HO_3.out
   subst eo20
   have p11:0≤(x4_1:Int):=of_decide_eq_true za
   have q11:(x4_1:Int)<((x3_1.length:Int):Int):=of_decide_eq_true za
   obtain ⟨go11,co11,eo11,gb11,gl11,cl11,HG11⟩:=Kd.R_form HO_3.out (by omega)
   (first|cases eo11|(injection eo11 with ea_ en_ ec_;(first|subst ea_|(injection ea_ with ea_;subst ea_));subst ec_;clear en_))
   have GB11:=Aside0.mk gb11
   have GG11:=Aside0.mk HG11
   clear gb11 gl11 HG11
   obtain ⟨ce11,hcl11,hM11,hcc11,hfr11⟩:=Kd.R_elem HO_3.out z76 (x4_1:Int) p11 q11
   obtain rfl:=k76_openM hM11
   have hx11_0:wr.cell? ⟨go11,(x4_1:Int).toNat * 4,none⟩=some (.int .i64 ((rd_T76 x3_1 x4_1).f0)):=hcc11 0 _ rfl
   have hx11_1:wr.cell? ⟨go11,(x4_1:Int).toNat * 4 + 1,none⟩=some (.int .i64 ((rd_T76 x3_1 x4_1).f1)):=hcc11 1 _ rfl
   have hx11_2:wr.cell? ⟨go11,(x4_1:Int).toNat * 4 + 2,none⟩=some (.int .i64 ((rd_T76 x3_1 x4_1).f2)):=hcc11 2 _ rfl
   have hx11_3:wr.cell? ⟨go11,(x4_1:Int).toNat * 4 + 3,none⟩=some (.int .i64 ((rd_T76 x3_1 x4_1).f3)):=hcc11 3 _ rfl
   have hf11_0:wr.frozen? ⟨go11,(x4_1:Int).toNat * 4,none⟩=false:=hfr11 0
   have hf11_1:wr.frozen? ⟨go11,(x4_1:Int).toNat * 4 + 1,none⟩=false:=hfr11 1
   have hf11_2:wr.frozen? ⟨go11,(x4_1:Int).toNat * 4 + 2,none⟩=false:=hfr11 2
   have hf11_3:wr.frozen? ⟨go11,(x4_1:Int).toNat * 4 + 3,none⟩=false:=hfr11 3
   (clear hcl11 hcc11 hfr11;(try clear hM11))
   replace p11:=eq_true p11
   replace q11:=eq_true q11
   have HX21:=Aside0.mk (show Kd.R k76 76 wr w.heap.size (fun _=>True) (.slice (some ⟨go11,0,none⟩) x3_1.length co20) x3_1 from (zR HO_3.out))
   obtain ⟨ce21,hcl21,hM21,hcc21,hfr21⟩:=Kd.R_elem HX21.out z76 (x4_1:Int) (of_decide_eq_true za) (by have h_:(x4_1:Int)<((x3_1.length:Int):Int):=of_decide_eq_true za;first|exact h_|(have e_:=(Kd.R_reads' HO_3.out).1;omega)|simpa using h_)
   obtain rfl:=k76_openM hM21
   have HP21:=Kd.R_seg HX21.out (x4_1:Int) (of_decide_eq_true za) (by have h_:(x4_1:Int)<((x3_1.length:Int):Int):=of_decide_eq_true za;first|exact h_|(have e_:=(Kd.R_reads' HO_3.out).1;omega)|simpa using h_) (seg:=[.int .i64 0]) (j:=2) hcl21 hcc21 (show 3≤4 from by decide) (x':=(⟨(rd_T76 x3_1 x4_1).f0,(rd_T76 x3_1 x4_1).f1,0,(rd_T76 x3_1 x4_1).f3⟩:S76)) (k76_mkM _ _ _ (⟨(rd_T76 x3_1 x4_1).f0,(rd_T76 x3_1 x4_1).f1,0,(rd_T76 x3_1 x4_1).f3⟩:S76)) (fun _ hk=>hk)
   have hx21_2:=hcc21 2 _ rfl
   (try simp only [show (k76).sz=4 from rfl,Nat.mul_one,Nat.add_zero] at hx21_2)
   have hf21_2:=hfr21 2
   (try simp only [show (k76).sz=4 from rfl,Nat.mul_one,Nat.add_zero] at hf21_2)
   (clear hcl21 hcc21 hfr21;(try clear hM21))
   go_wp2_with (first|((with_reducible refine gate_store (t:=3) (p:=19) rfl ?_);(try (rw [drewN_self wr];generalize hq_:World.drewN wr _=wr;have n0_:=Aside0.mk (Kd.R_at hq_ HO_3.out);have n1_:=Aside0.mk (IsS111.at_ hq_ HI0.out);have n2_:=Aside0.mk (keep_at hq_ HK.out);have n3_:=Aside0.mk (below_at hq_ HB.out);(try replace hx11_0:=cell_at hq_ hx11_0);(try replace hx11_1:=cell_at hq_ hx11_1);(try replace hx11_2:=cell_at hq_ hx11_2);(try replace hx11_3:=cell_at hq_ hx11_3);(try replace hf11_0:=(fun {W_ W2_:World} {n_:Nat} {a_:Addr} {b_:Bool} (h_:W_.drewN n_=W2_) (e_:W_.frozen? a_=b_)=>(by subst h_;exact e_:W2_.frozen? a_=b_)) hq_ hf11_0);(try replace hf11_1:=(fun {W_ W2_:World} {n_:Nat} {a_:Addr} {b_:Bool} (h_:W_.drewN n_=W2_) (e_:W_.frozen? a_=b_)=>(by subst h_;exact e_:W2_.frozen? a_=b_)) hq_ hf11_1);(try replace hf11_2:=(fun {W_ W2_:World} {n_:Nat} {a_:Addr} {b_:Bool} (h_:W_.drewN n_=W2_) (e_:W_.frozen? a_=b_)=>(by subst h_;exact e_:W2_.frozen? a_=b_)) hq_ hf11_2);(try replace hf11_3:=(fun {W_ W2_:World} {n_:Nat} {a_:Addr} {b_:Bool} (h_:W_.drewN n_=W2_) (e_:W_.frozen? a_=b_)=>(by subst h_;exact e_:W2_.frozen? a_=b_)) hq_ hf11_3);(try replace hx21_2:=cell_at hq_ hx21_2);(try replace hf21_2:=(fun {W_ W2_:World} {n_:Nat} {a_:Addr} {b_:Bool} (h_:W_.drewN n_=W2_) (e_:W_.frozen? a_=b_)=>(by subst h_;exact e_:W2_.frozen? a_=b_)) hq_ hf21_2);clear hq_ HO_3 HI0 HK HB;have HO_3:=n0_;have HI0:=n1_;have HK:=n2_;have HB:=n3_;clear n0_ n1_ n2_ n3_;(try (have HX21:=Aside0.mk (show Kd.R k76 76 wr w.heap.size (fun _=>True) (.slice (some ⟨go11,0,none⟩) x3_1.length co20) x3_1 from (zR HO_3.out))));(try (obtain ⟨ce21,hcl21,hM21,hcc21,hfr21⟩:=Kd.R_elem HX21.out z76 (x4_1:Int) (of_decide_eq_true za) (by have h_:(x4_1:Int)<((x3_1.length:Int):Int):=of_decide_eq_true za;first|exact h_|(have e_:=(Kd.R_reads' HO_3.out).1;omega)|simpa using h_)));(try (obtain rfl:=k76_openM hM21));(try (have HP21:=Kd.R_seg HX21.out (x4_1:Int) (of_decide_eq_true za) (by have h_:(x4_1:Int)<((x3_1.length:Int):Int):=of_decide_eq_true za;first|exact h_|(have e_:=(Kd.R_reads' HO_3.out).1;omega)|simpa using h_) (seg:=[.int .i64 0]) (j:=2) hcl21 hcc21 (show 3≤4 from by decide) (x':=(⟨(rd_T76 x3_1 x4_1).f0,(rd_T76 x3_1 x4_1).f1,0,(rd_T76 x3_1 x4_1).f3⟩:S76)) (k76_mkM _ _ _ (⟨(rd_T76 x3_1 x4_1).f0,(rd_T76 x3_1 x4_1).f1,0,(rd_T76 x3_1 x4_1).f3⟩:S76)) (fun _ hk=>hk)));(try (have hx21_2:=hcc21 2 _ rfl));(try (try simp only [show (k76).sz=4 from rfl,Nat.mul_one,Nat.add_zero] at hx21_2));(try (have hf21_2:=hfr21 2));(try (try simp only [show (k76).sz=4 from rfl,Nat.mul_one,Nat.add_zero] at hf21_2));(try (clear hcl21 hcc21 hfr21;(try clear hM21)))));refine store_event (t:=3) (p:=19) (v:=?vo_w22) (w1:=(wr.setCell ⟨go11,(x4_1:Int).toNat * 4 + 2,none⟩ (.int .i64 0))) ?hg ?ho ?hn ?hr ?_;(case ho=>rfl);(case hg=>rfl);(case hn=>rfl);(case hr=>first|(go_simp;done)|(go_simp;rfl));intro w22 hw;have hg:wr.grownBy w22 (some go11):=(by rw [hw];exact HP21.2);have hp_:Kd.R k76 76 w22 w.heap.size (fun _=>True) (.slice (some ⟨go11,0,none⟩) x3_1.length co20) y329:=(by rw [hw,Ny329.out];exact HP21.1);clear HP21;have n0_:=Aside0.mk (hp_);have n1_:=Aside0.mk (IsS111.grown zz2 hg (IsS111.own_ne HI0.out HO_3.out (by decide)));have n2_:=Aside0.mk ((by rw [hw];exact below_set (HB.out) (Nat.le_trans HL.out GB11.out):Below w0.heap.size w0 w22));have n3_:=Aside0.mk (KeepBut.trans zz0 (KeepBut.of_grown hg g) (Kd.R_base2 HO_3.out));clear HO_3;clear HI0;clear HB;clear HK;have HO_3:=n0_;have HI0:=n1_;have HB:=n2_;have HK:=n3_;clear n0_ n1_ n2_ n3_;clear hg hw hp_)|(go_at_call 137;(with_reducible refine (spec_l1Cur_one.calls g s0_0 x1001_1 x1002_1 3 true t331 t332 w0 _ ?side1 ?side2 A13.out).mono ?_);(case side1=>exact zz2);(case side2=>exact zz3);rintro e w23 ⟨rfl,hi,hb,hk⟩;replace HO_3:=Aside0.mk (Kd.R_mono (Kd.R_keep (IsS111.apart (show IsS111 w0 _ g s0_0 x1001_1 x1002_1 from by repeat (first|(with_reducible first|exact HI0.out|apply IsS111.alloc|apply IsS111.drewN|apply IsS111.drew|apply IsS111.set_1|apply IsS111.set_2)|exact HI0.out)) (zR HO_3.out) (by decide)) hk (fun _ h=>h.2)) (fun _ h=>h.1));replace HK:=Aside0.mk (KeepBut.trans zz0 hk (.inl rfl));replace HB:=Aside0.mk (hb);replace HI0:=Aside0.mk (hi);(try clear hb);(try clear hk);(try clear hi);have p333:0≤((ji15):Int):=of_decide_eq_true za;have q333:(ji15)<(y329.length:Int):=(by have h_:((ji15):Int)<((x3_1.length:Int):Int):=of_decide_eq_true za;first|(have e_:=(Kd.R_reads' HO_3.out).1;omega)|simpa only [Ny329.out,List.length_set] using h_);have ql333:(((ji15):Int)<((x3_1.length:Int):Int))=True:=eq_true (of_decide_eq_true za);obtain ⟨ad333,e333,hx333_0,hx333_1,hx333_2,hx333_3⟩:=at_T76 (Kd.R_reads' HO_3.out).2.2 (ji15) p333 q333;obtain rfl:(⟨go11,0,none⟩:Addr)=ad333:=(by injection e333);(first|simp only [add_plain] at hx333_0|simp only [add_at] at hx333_0|simp only [Addr.add,Nat.zero_add] at hx333_0|skip);(first|simp only [add_plain] at hx333_1|simp only [add_at] at hx333_1|simp only [Addr.add,Nat.zero_add] at hx333_1|skip);(first|simp only [add_plain] at hx333_2|simp only [add_at] at hx333_2|simp only [Addr.add,Nat.zero_add] at hx333_2|skip);(first|simp only [add_plain] at hx333_3|simp only [add_at] at hx333_3|simp only [Addr.add,Nat.zero_add] at hx333_3|skip);replace p333:=eq_true p333;replace q333:=eq_true q333;have p18:0≤(x4_1:Int):=of_decide_eq_true za;have q18:(x4_1:Int)<((x3_1.length:Int):Int):=of_decide_eq_true za;obtain ⟨ce18,hcl18,hM18,hcc18,hfr18⟩:=Kd.R_elem HO_3.out z76 (x4_1:Int) p18 q18;obtain rfl:=k76_openM hM18;have hx18_0:w23.cell? ⟨go11,(x4_1:Int).toNat * 4,none⟩=some (.int .i64 ((rd_T76 y329 x4_1).f0)):=hcc18 0 _ rfl;have hx18_1:w23.cell? ⟨go11,(x4_1:Int).toNat * 4 + 1,none⟩=some (.int .i64 ((rd_T76 y329 x4_1).f1)):=hcc18 1 _ rfl;have hx18_2:w23.cell? ⟨go11,(x4_1:Int).toNat * 4 + 2,none⟩=some (.int .i64 ((rd_T76 y329 x4_1).f2)):=hcc18 2 _ rfl;have hx18_3:w23.cell? ⟨go11,(x4_1:Int).toNat * 4 + 3,none⟩=some (.int .i64 ((rd_T76 y329 x4_1).f3)):=hcc18 3 _ rfl;have hf18_0:w23.frozen? ⟨go11,(x4_1:Int).toNat * 4,none⟩=false:=hfr18 0;have hf18_1:w23.frozen? ⟨go11,(x4_1:Int).toNat * 4 + 1,none⟩=false:=hfr18 1;have hf18_2:w23.frozen? ⟨go11,(x4_1:Int).toNat * 4 + 2,none⟩=false:=hfr18 2;have hf18_3:w23.frozen? ⟨go11,(x4_1:Int).toNat * 4 + 3,none⟩=false:=hfr18 3;(clear hcl18 hcc18 hfr18;(try clear hM18));replace p18:=eq_true p18;replace q18:=eq_true q18;have HX24:=Aside0.mk (show Kd.R k76 76 w23 w.heap.size (fun _=>True) (.slice (some ⟨go11,0,none⟩) x3_1.length co20) y329 from (zR HO_3.out));obtain ⟨ce24,hcl24,hM24,hcc24,hfr24⟩:=Kd.R_elem HX24.out z76 (x4_1:Int) (of_decide_eq_true za) (by have h_:(x4_1:Int)<((x3_1.length:Int):Int):=of_decide_eq_true za;first|exact h_|(have e_:=(Kd.R_reads' HO_3.out).1;omega)|simpa using h_);obtain rfl:=k76_openM hM24;have HP24:=Kd.R_seg HX24.out (x4_1:Int) (of_decide_eq_true za) (by have h_:(x4_1:Int)<((x3_1.length:Int):Int):=of_decide_eq_true za;first|exact h_|(have e_:=(Kd.R_reads' HO_3.out).1;omega)|simpa using h_) (seg:=[.int .i64 ((rd_T76 y329 (ji15)).f0)]) (j:=0) hcl24 hcc24 (show 1≤4 from by decide) (x':=(⟨(rd_T76 y329 (ji15)).f0,(rd_T76 y329 x4_1).f1,(rd_T76 y329 x4_1).f2,(rd_T76 y329 x4_1).f3⟩:S76)) (k76_mkM _ _ _ (⟨(rd_T76 y329 (ji15)).f0,(rd_T76 y329 x4_1).f1,(rd_T76 y329 x4_1).f2,(rd_T76 y329 x4_1).f3⟩:S76)) (fun _ hk=>hk);have hx24_0:=hcc24 0 _ rfl;(try simp only [show (k76).sz=4 from rfl,Nat.mul_one,Nat.add_zero] at hx24_0);have hf24_0:=hfr24 0;(try simp only [show (k76).sz=4 from rfl,Nat.mul_one,Nat.add_zero] at hf24_0);(clear hcl24 hcc24 hfr24;(try clear hM24)))|((with_reducible refine gate_store (t:=3) (p:=35) rfl ?_);(try (rw [drewN_self w23];generalize hq_:World.drewN w23 _=w23;have n0_:=Aside0.mk (Kd.R_at hq_ HO_3.out);have n1_:=Aside0.mk (IsS111.at_ hq_ HI0.out);have n2_:=Aside0.mk (keep_at hq_ HK.out);have n3_:=Aside0.mk (below_at hq_ HB.out);(try replace hx18_0:=cell_at hq_ hx18_0);(try replace hx18_1:=cell_at hq_ hx18_1);(try replace hx18_2:=cell_at hq_ hx18_2);(try replace hx18_3:=cell_at hq_ hx18_3);(try replace hf18_0:=(fun {W_ W2_:World} {n_:Nat} {a_:Addr} {b_:Bool} (h_:W_.drewN n_=W2_) (e_:W_.frozen? a_=b_)=>(by subst h_;exact e_:W2_.frozen? a_=b_)) hq_ hf18_0);(try replace hf18_1:=(fun {W_ W2_:World} {n_:Nat} {a_:Addr} {b_:Bool} (h_:W_.drewN n_=W2_) (e_:W_.frozen? a_=b_)=>(by subst h_;exact e_:W2_.frozen? a_=b_)) hq_ hf18_1);(try replace hf18_2:=(fun {W_ W2_:World} {n_:Nat} {a_:Addr} {b_:Bool} (h_:W_.drewN n_=W2_) (e_:W_.frozen? a_=b_)=>(by subst h_;exact e_:W2_.frozen? a_=b_)) hq_ hf18_2);(try replace hf18_3:=(fun {W_ W2_:World} {n_:Nat} {a_:Addr} {b_:Bool} (h_:W_.drewN n_=W2_) (e_:W_.frozen? a_=b_)=>(by subst h_;exact e_:W2_.frozen? a_=b_)) hq_ hf18_3);(try replace hx24_0:=cell_at hq_ hx24_0);(try replace hf24_0:=(fun {W_ W2_:World} {n_:Nat} {a_:Addr} {b_:Bool} (h_:W_.drewN n_=W2_) (e_:W_.frozen? a_=b_)=>(by subst h_;exact e_:W2_.frozen? a_=b_)) hq_ hf24_0);clear hq_ HO_3 HI0 HK HB;have HO_3:=n0_;have HI0:=n1_;have HK:=n2_;have HB:=n3_;clear n0_ n1_ n2_ n3_;(try (have HX24:=Aside0.mk (show Kd.R k76 76 w23 w.heap.size (fun _=>True) (.slice (some ⟨go11,0,none⟩) x3_1.length co20) y329 from (zR HO_3.out))));(try (obtain ⟨ce24,hcl24,hM24,hcc24,hfr24⟩:=Kd.R_elem HX24.out z76 (x4_1:Int) (of_decide_eq_true za) (by have h_:(x4_1:Int)<((x3_1.length:Int):Int):=of_decide_eq_true za;first|exact h_|(have e_:=(Kd.R_reads' HO_3.out).1;omega)|simpa using h_)));(try (obtain rfl:=k76_openM hM24));(try (have HP24:=Kd.R_seg HX24.out (x4_1:Int) (of_decide_eq_true za) (by have h_:(x4_1:Int)<((x3_1.length:Int):Int):=of_decide_eq_true za;first|exact h_|(have e_:=(Kd.R_reads' HO_3.out).1;omega)|simpa using h_) (seg:=[.int .i64 ((rd_T76 y329 (ji15)).f0)]) (j:=0) hcl24 hcc24 (show 1≤4 from by decide) (x':=(⟨(rd_T76 y329 (ji15)).f0,(rd_T76 y329 x4_1).f1,(rd_T76 y329 x4_1).f2,(rd_T76 y329 x4_1).f3⟩:S76)) (k76_mkM _ _ _ (⟨(rd_T76 y329 (ji15)).f0,(rd_T76 y329 x4_1).f1,(rd_T76 y329 x4_1).f2,(rd_T76 y329 x4_1).f3⟩:S76)) (fun _ hk=>hk)));(try (have hx24_0:=hcc24 0 _ rfl));(try (try simp only [show (k76).sz=4 from rfl,Nat.mul_one,Nat.add_zero] at hx24_0));(try (have hf24_0:=hfr24 0));(try (try simp only [show (k76).sz=4 from rfl,Nat.mul_one,Nat.add_zero] at hf24_0));(try (clear hcl24 hcc24 hfr24;(try clear hM24)))));refine store_event (t:=3) (p:=35) (v:=?vo_w25) (w1:=(w23.setCell ⟨go11,(x4_1:Int).toNat * 4,none⟩ (.int .i64 ((rd_T76 y329 (ji15)).f0)))) ?hg ?ho ?hn ?hr ?_;(case ho=>rfl);(case hg=>rfl);(case hn=>rfl);(case hr=>first|(go_simp;done)|(go_simp;rfl));intro w25 hw;have hg:w23.grownBy w25 (some go11):=(by rw [hw];exact HP24.2);have hp_:Kd.R k76 76 w25 w.heap.size (fun _=>True) (.slice (some ⟨go11,0,none⟩) x3_1.length co20) y334:=(by rw [hw,Ny334.out];exact HP24.1);clear HP24;have n0_:=Aside0.mk (hp_);have n1_:=Aside0.mk (IsS111.grown zz2 hg (IsS111.own_ne HI0.out HO_3.out (by decide)));have n2_:=Aside0.mk ((by rw [hw];exact below_set (HB.out) (Nat.le_trans HL.out GB11.out):Below w0.heap.size w0 w25));have n3_:=Aside0.mk (KeepBut.trans zz0 (KeepBut.of_grown hg g) (Kd.R_base2 HO_3.out));clear HO_3;clear HI0;clear HB;clear HK;have HO_3:=n0_;have HI0:=n1_;have HB:=n2_;have HK:=n3_;clear n0_ n1_ n2_ n3_;clear hg hw hp_;have p335:0≤((ji15):Int):=of_decide_eq_true za;have q335:(ji15)<(y334.length:Int):=(by have h_:((ji15):Int)<((x3_1.length:Int):Int):=of_decide_eq_true za;first|(have e_:=(Kd.R_reads' HO_3.out).1;omega)|simpa only [Ny329.out,Ny334.out,List.length_set] using h_);have ql335:(((ji15):Int)<((x3_1.length:Int):Int))=True:=eq_true (of_decide_eq_true za);obtain ⟨ad335,e335,hx335_0,hx335_1,hx335_2,hx335_3⟩:=at_T76 (Kd.R_reads' HO_3.out).2.2 (ji15) p335 q335;obtain rfl:(⟨go11,0,none⟩:Addr)=ad335:=(by injection e335);(first|simp only [add_plain] at hx335_0|simp only [add_at] at hx335_0|simp only [Addr.add,Nat.zero_add] at hx335_0|skip);(first|simp only [add_plain] at hx335_1|simp only [add_at] at hx335_1|simp only [Addr.add,Nat.zero_add] at hx335_1|skip);(first|simp only [add_plain] at hx335_2|simp only [add_at] at hx335_2|simp only [Addr.add,Nat.zero_add] at hx335_2|skip);(first|simp only [add_plain] at hx335_3|simp only [add_at] at hx335_3|simp only [Addr.add,Nat.zero_add] at hx335_3|skip);replace p335:=eq_true p335;replace q335:=eq_true q335;have p19:0≤(x4_1:Int):=of_decide_eq_true za;have q19:(x4_1:Int)<((x3_1.length:Int):Int):=of_decide_eq_true za;obtain ⟨ce19,hcl19,hM19,hcc19,hfr19⟩:=Kd.R_elem HO_3.out z76 (x4_1:Int) p19 q19;obtain rfl:=k76_openM hM19;have hx19_0:w25.cell? ⟨go11,(x4_1:Int).toNat * 4,none⟩=some (.int .i64 ((rd_T76 y334 x4_1).f0)):=hcc19 0 _ rfl;have hx19_1:w25.cell? ⟨go11,(x4_1:Int).toNat * 4 + 1,none⟩=some (.int .i64 ((rd_T76 y334 x4_1).f1)):=hcc19 1 _ rfl;have hx19_2:w25.cell? ⟨go11,(x4_1:Int).toNat * 4 + 2,none⟩=some (.int .i64 ((rd_T76 y334 x4_1).f2)):=hcc19 2 _ rfl;have hx19_3:w25.cell? ⟨go11,(x4_1:Int).toNat * 4 + 3,none⟩=some (.int .i64 ((rd_T76 y334 x4_1).f3)):=hcc19 3 _ rfl;have hf19_0:w25.frozen? ⟨go11,(x4_1:Int).toNat * 4,none⟩=false:=hfr19 0;have hf19_1:w25.frozen? ⟨go11,(x4_1:Int).toNat * 4 + 1,none⟩=false:=hfr19 1;have hf19_2:w25.frozen? ⟨go11,(x4_1:Int).toNat * 4 + 2,none⟩=false:=hfr19 2;have hf19_3:w25.frozen? ⟨go11,(x4_1:Int).toNat * 4 + 3,none⟩=false:=hfr19 3;(clear hcl19 hcc19 hfr19;(try clear hM19));replace p19:=eq_true p19;replace q19:=eq_true q19;have HX26:=Aside0.mk (show Kd.R k76 76 w25 w.heap.size (fun _=>True) (.slice (some ⟨go11,0,none⟩) x3_1.length co20) y334 from (zR HO_3.out));obtain ⟨ce26,hcl26,hM26,hcc26,hfr26⟩:=Kd.R_elem HX26.out z76 (x4_1:Int) (of_decide_eq_true za) (by have h_:(x4_1:Int)<((x3_1.length:Int):Int):=of_decide_eq_true za;first|exact h_|(have e_:=(Kd.R_reads' HO_3.out).1;omega)|simpa using h_);obtain rfl:=k76_openM hM26;have HP26:=Kd.R_seg HX26.out (x4_1:Int) (of_decide_eq_true za) (by have h_:(x4_1:Int)<((x3_1.length:Int):Int):=of_decide_eq_true za;first|exact h_|(have e_:=(Kd.R_reads' HO_3.out).1;omega)|simpa using h_) (seg:=[.int .i64 ((rd_T76 y334 (ji15)).f1)]) (j:=1) hcl26 hcc26 (show 2≤4 from by decide) (x':=(⟨(rd_T76 y334 x4_1).f0,(rd_T76 y334 (ji15)).f1,(rd_T76 y334 x4_1).f2,(rd_T76 y334 x4_1).f3⟩:S76)) (k76_mkM _ _ _ (⟨(rd_T76 y334 x4_1).f0,(rd_T76 y334 (ji15)).f1,(rd_T76 y334 x4_1).f2,(rd_T76 y334 x4_1).f3⟩:S76)) (fun _ hk=>hk);have hx26_1:=hcc26 1 _ rfl;(try simp only [show (k76).sz=4 from rfl,Nat.mul_one,Nat.add_zero] at hx26_1);have hf26_1:=hfr26 1;(try simp only [show (k76).sz=4 from rfl,Nat.mul_one,Nat.add_zero] at hf26_1);(clear hcl26 hcc26 hfr26;(try clear hM26)))|((with_reducible refine gate_store (t:=3) (p:=45) rfl ?_);(try (rw [drewN_self w25];generalize hq_:World.drewN w25 _=w25;have n0_:=Aside0.mk (Kd.R_at hq_ HO_3.out);have n1_:=Aside0.mk (IsS111.at_ hq_ HI0.out);have n2_:=Aside0.mk (keep_at hq_ HK.out);have n3_:=Aside0.mk (below_at hq_ HB.out);(try replace hx19_0:=cell_at hq_ hx19_0);(try replace hx19_1:=cell_at hq_ hx19_1);(try replace hx19_2:=cell_at hq_ hx19_2);(try replace hx19_3:=cell_at hq_ hx19_3);(try replace hf19_0:=(fun {W_ W2_:World} {n_:Nat} {a_:Addr} {b_:Bool} (h_:W_.drewN n_=W2_) (e_:W_.frozen? a_=b_)=>(by subst h_;exact e_:W2_.frozen? a_=b_)) hq_ hf19_0);(try replace hf19_1:=(fun {W_ W2_:World} {n_:Nat} {a_:Addr} {b_:Bool} (h_:W_.drewN n_=W2_) (e_:W_.frozen? a_=b_)=>(by subst h_;exact e_:W2_.frozen? a_=b_)) hq_ hf19_1);(try replace hf19_2:=(fun {W_ W2_:World} {n_:Nat} {a_:Addr} {b_:Bool} (h_:W_.drewN n_=W2_) (e_:W_.frozen? a_=b_)=>(by subst h_;exact e_:W2_.frozen? a_=b_)) hq_ hf19_2);(try replace hf19_3:=(fun {W_ W2_:World} {n_:Nat} {a_:Addr} {b_:Bool} (h_:W_.drewN n_=W2_) (e_:W_.frozen? a_=b_)=>(by subst h_;exact e_:W2_.frozen? a_=b_)) hq_ hf19_3);(try replace hx26_1:=cell_at hq_ hx26_1);(try replace hf26_1:=(fun {W_ W2_:World} {n_:Nat} {a_:Addr} {b_:Bool} (h_:W_.drewN n_=W2_) (e_:W_.frozen? a_=b_)=>(by subst h_;exact e_:W2_.frozen? a_=b_)) hq_ hf26_1);clear hq_ HO_3 HI0 HK HB;have HO_3:=n0_;have HI0:=n1_;have HK:=n2_;have HB:=n3_;clear n0_ n1_ n2_ n3_;(try (have HX26:=Aside0.mk (show Kd.R k76 76 w25 w.heap.size (fun _=>True) (.slice (some ⟨go11,0,none⟩) x3_1.length co20) y334 from (zR HO_3.out))));(try (obtain ⟨ce26,hcl26,hM26,hcc26,hfr26⟩:=Kd.R_elem HX26.out z76 (x4_1:Int) (of_decide_eq_true za) (by have h_:(x4_1:Int)<((x3_1.length:Int):Int):=of_decide_eq_true za;first|exact h_|(have e_:=(Kd.R_reads' HO_3.out).1;omega)|simpa using h_)));(try (obtain rfl:=k76_openM hM26));(try (have HP26:=Kd.R_seg HX26.out (x4_1:Int) (of_decide_eq_true za) (by have h_:(x4_1:Int)<((x3_1.length:Int):Int):=of_decide_eq_true za;first|exact h_|(have e_:=(Kd.R_reads' HO_3.out).1;omega)|simpa using h_) (seg:=[.int .i64 ((rd_T76 y334 (ji15)).f1)]) (j:=1) hcl26 hcc26 (show 2≤4 from by decide) (x':=(⟨(rd_T76 y334 x4_1).f0,(rd_T76 y334 (ji15)).f1,(rd_T76 y334 x4_1).f2,(rd_T76 y334 x4_1).f3⟩:S76)) (k76_mkM _ _ _ (⟨(rd_T76 y334 x4_1).f0,(rd_T76 y334 (ji15)).f1,(rd_T76 y334 x4_1).f2,(rd_T76 y334 x4_1).f3⟩:S76)) (fun _ hk=>hk)));(try (have hx26_1:=hcc26 1 _ rfl));(try (try simp only [show (k76).sz=4 from rfl,Nat.mul_one,Nat.add_zero] at hx26_1));(try (have hf26_1:=hfr26 1));(try (try simp only [show (k76).sz=4 from rfl,Nat.mul_one,Nat.add_zero] at hf26_1));(try (clear hcl26 hcc26 hfr26;(try clear hM26)))));refine store_event (t:=3) (p:=45) (v:=?vo_w27) (w1:=(w25.setCell ⟨go11,(x4_1:Int).toNat * 4 + 1,none⟩ (.int .i64 ((rd_T76 y334 (ji15)).f1)))) ?hg ?ho ?hn ?hr ?_;(case ho=>rfl);(case hg=>rfl);(case hn=>rfl);(case hr=>first|(go_simp;done)|(go_simp;rfl));intro w27 hw;have hg:w25.grownBy w27 (some go11):=(by rw [hw];exact HP26.2);have hp_:Kd.R k76 76 w27 w.heap.size (fun _=>True) (.slice (some ⟨go11,0,none⟩) x3_1.length co20) y336:=(by rw [hw,Ny336.out];exact HP26.1);clear HP26;have n0_:=Aside0.mk (hp_);have n1_:=Aside0.mk (IsS111.grown zz2 hg (IsS111.own_ne HI0.out HO_3.out (by decide)));have n2_:=Aside0.mk ((by rw [hw];exact below_set (HB.out) (Nat.le_trans HL.out GB11.out):Below w0.heap.size w0 w27));have n3_:=Aside0.mk (KeepBut.trans zz0 (KeepBut.of_grown hg g) (Kd.R_base2 HO_3.out));clear HO_3;clear HI0;clear HB;clear HK;have HO_3:=n0_;have HI0:=n1_;have HB:=n2_;have HK:=n3_;clear n0_ n1_ n2_ n3_;clear hg hw hp_))
   go_roundg k1
   case measure=>have:=HK1.out;omega
   case rel=>exact ⟨(y336),(wrap64 (x4_1 + 1)),(t331),(t332),zo,H',⟨by have:=HK1.out;omega⟩,⟨zR HO_3.out⟩,⟨zz2⟩,⟨zz0⟩,⟨zz3⟩⟩

/-! ### spec_l1Cur_work7: function 85 -/
def spec_l1Cur_work7.l0:Nat→List (S76)→Int→List Int→Int→Int→Option ((List (S76)) × Int × Int)
 | 0,_,_,_,_,_=>none
 | k + 1,x3,x4,x1000,x1001,x1002=>if x4<(x3.length:Int) then ((spec_l1Cur_one.f x1000 x1001 x1002 4).bind fun bt342=>(if bt342.1=true then (some (x3,bt342.2.1,bt342.2.2)) else ((spec_l1Cur_among.f x1000 bt342.2.1 bt342.2.2 (([1,1,2,3,4,7]:List Int))).bind fun bt348=>(if 0≤x4 then (spec_l1Cur_work7.l0 k (x3.set (x4:Int).toNat (⟨bt348.1,(rd_T76 x3 x4).f1,(rd_T76 x3 x4).f2,(rd_T76 x3 x4).f3⟩:S76)) (wrap64 (x4 + 1)) x1000 bt348.2.1 bt348.2.2) else (none))))) else (some (x3,x1001,x1002))
def spec_l1Cur_work7.f (k:Nat) (s0_0:List Int) (s0_1:Int) (s0_2:Int):Option ((List (S76)) × Int × Int):=(spec_l1Cur_plain3.f k s0_0 s0_1 s0_2).bind fun bt337=>(spec_l1Cur_work7.l0 k bt337.1 0 s0_0 bt337.2.1 bt337.2.2)
theorem spec_l1Cur_work7.mono_l:∀ k,(∀ y0 y1 y2 y3 y4,LeO (spec_l1Cur_work7.l0 k y0 y1 y2 y3 y4) (spec_l1Cur_work7.l0 (k + 1) y0 y1 y2 y3 y4))
 | 0=>fun _ _ _ _ _ r h=>by simp [spec_l1Cur_work7.l0] at h
 | k + 1=>by
  have ih0:=spec_l1Cur_work7.mono_l k
  ·intro y0 y1 y2 y3 y4
   unfold spec_l1Cur_work7.l0
   repeat' first|(with_reducible first|apply ih0|exact spec_l1Cur_plain3.mono _ _ _ _|exact LeO.refl _|exact LeO.none _|refine LeO.ite ?_ ?_|refine LeO.bind ?_ (fun _=>?_))|apply ih0|exact spec_l1Cur_plain3.mono _ _ _ _|exact LeO.none _|refine LeO.ite ?_ ?_|refine LeO.bind ?_ (fun _=>?_)
theorem spec_l1Cur_work7.mono:∀ a0 a1 a2 k,LeO (spec_l1Cur_work7.f k a0 a1 a2) (spec_l1Cur_work7.f (k + 1) a0 a1 a2):=by
 intro a0 a1 a2 k
 have ih0:=spec_l1Cur_work7.mono_l k
 unfold spec_l1Cur_work7.f
 repeat' first|(with_reducible first|apply ih0|exact spec_l1Cur_plain3.mono _ _ _ _|exact LeO.refl _|exact LeO.none _|refine LeO.ite ?_ ?_|refine LeO.bind ?_ (fun _=>?_))|apply ih0|exact spec_l1Cur_plain3.mono _ _ _ _|exact LeO.none _|refine LeO.ite ?_ ?_|refine LeO.bind ?_ (fun _=>?_)
set_option maxHeartbeats 8000000 in
set_option maxRecDepth 100000 in
theorem spec_l1Cur_work7.calls (k:Nat) (g:Nat) (s0_0:List Int) (s0_1:Int) (s0_2:Int) (r1:List (S76)) (r2:Int) (r3:Int) (w0 w:World) (hI:IsS111 w0 w g s0_0 s0_1 s0_2) (hB:Below w0.heap.size w0 w) (h:spec_l1Cur_work7.f k s0_0 s0_1 s0_2=some (r1,r2,r3)) :
  Calls Try.prog 85 #[.pointer (some ⟨g,0,none⟩)] w fun e w'=>∃ v0_:Value,e=.returned (v0_)∧Kd.R k76 76 w' w.heap.size (fun _=>True) v0_ r1∧IsS111 w0 w' g s0_0 r2 r3∧Below w0.heap.size w0 w'∧KeepBut w w' g none:=by
 have HI0:=Aside0.mk hI
 have HK:=Aside0.mk (KeepBut.refl w g none)
 have HL:=Aside0.mk hB.size
 clear hI
 have HW0:=Aside0.mk hB.size
 have HB:=Aside0.mk hB
 clear hB
 have H:((spec_l1Cur_plain3.f k s0_0 s0_1 s0_2).bind fun bt337=>(spec_l1Cur_work7.l0 k bt337.1 0 s0_0 bt337.2.1 bt337.2.2))=some (r1,r2,r3):=h
 clear h
 replace H:=Option.bind_eq_some_iff.mp H
 obtain ⟨⟨t337,t340,t341⟩,A20,H⟩:=H
 try dsimp only at H
 have A2:=Aside0.mk A20
 clear A20
 have H':=Aside0.mk H
 clear H
 go_enter Try.func85,Try.ntmps85
 go_wp2_with (first|((with_reducible refine gate_callee (f:=136) rfl ?_);refine zgo 6 Try.func136 #[.pointer (some ⟨g,0,none⟩)] ?_;(with_reducible refine (spec_l1Cur_plain3.calls k g s0_0 s0_1 s0_2 t337 t340 t341 w0 _ ?side1 ?side2 A2.out).mono ?_);(case side1=>exact zz2);(case side2=>exact zz3);rintro e w3 ⟨v338,rfl,ho0,hi,hb,hk⟩;refine ⟨_,rfl,?_⟩;have HO339:=Aside0.mk (Kd.R_lower ho0 (keep_size (w:=w) (g:=g) (row:=none) zz0));replace HK:=Aside0.mk (KeepBut.trans zz0 hk (.inl rfl));replace HB:=Aside0.mk (hb);replace HI0:=Aside0.mk (hi);(try clear hb);(try clear hk);(try clear hi);(try clear ho0)))
 try simp only [Act.put,List.setIfInBounds_toArray,List.set_cons_succ,List.set_cons_zero]
 go_loopg [4] k (fun kq v4 w'=>∃ (x3_1:List (S76)) (x4_1:Int) (x1001_1:Int) (x1002_1:Int),v4=.int .i64 x4_1∧Aside0 (spec_l1Cur_work7.l0 kq x3_1 x4_1 s0_0 x1001_1 x1002_1=some (r1,r2,r3))∧Aside0 (kq≤k)∧Aside0 (Kd.R k76 76 w' w.heap.size (fun _=>True) v338 x3_1)∧Aside0 (IsS111 w0 w' g s0_0 x1001_1 x1002_1)∧Aside0 (KeepBut w w' g none)∧Aside0 (Below w0.heap.size w0 w'))
 case atStart=>exact ⟨(t337),(0),(t340),(t341),zo,H',⟨Nat.le_refl _⟩,⟨zR HO339.out⟩,⟨zz2⟩,⟨zz0⟩,⟨zz3⟩⟩
 case round=>
  clear H'
  obtain ⟨x3_1,x4_1,x1001_1,x1002_1,rfl,HA,HK1,HO_3,HI0,HK,HB⟩:=hrel
  cases gk with
  | zero=>exact absurd HA.out (by simp [spec_l1Cur_work7.l0])
  | succ k1=>
   have H:=HA.out
   clear HA
   simp only [spec_l1Cur_work7.l0] at H
   by_cases c4:x4_1<(x3_1.length:Int)
   rotate_left
   ·rw [if_neg c4] at H
    have c4b0:=decide_eq_false c4
    clear c4
    simp only [Option.some.injEq,Prod.mk.injEq] at H
    obtain ⟨rfl,rfl,rfl⟩:=H
    obtain ⟨Ao20,co20,eo20⟩:=Kd.R_slice HO_3.out
    subst eo20
    go_wp2
    go_ret
    exact ⟨_,zz1,zR HO_3.out,zz2,zz3,zz0⟩
   rw [if_pos c4] at H
   have c4b0:=decide_eq_true c4
   clear c4
   replace H:=Option.bind_eq_some_iff.mp H
   obtain ⟨⟨t342,t343,t344⟩,A50,H⟩:=H
   try dsimp only at H
   have A5:=Aside0.mk A50
   clear A50
   by_cases c6:t342=true
   ·subst c6
    rw [if_pos rfl] at H
    simp only [Option.some.injEq,Prod.mk.injEq] at H
    obtain ⟨rfl,rfl,rfl⟩:=H
    obtain ⟨Ao7,co7,eo7⟩:=Kd.R_slice HO_3.out
    subst eo7
    go_wp2_with (first|(go_at_call 137;(with_reducible refine (spec_l1Cur_one.calls g s0_0 x1001_1 x1002_1 4 true t343 t344 w0 _ ?side1 ?side2 A5.out).mono ?_);(case side1=>exact zz2);(case side2=>exact zz3);rintro e w8 ⟨rfl,hi,hb,hk⟩;replace HO_3:=Aside0.mk (Kd.R_mono (Kd.R_keep (IsS111.apart (show IsS111 w0 _ g s0_0 x1001_1 x1002_1 from by repeat (first|(with_reducible first|exact HI0.out|apply IsS111.alloc|apply IsS111.drewN|apply IsS111.drew|apply IsS111.set_1|apply IsS111.set_2)|exact HI0.out)) (zR HO_3.out) (by decide)) hk (fun _ h=>h.2)) (fun _ h=>h.1));replace HK:=Aside0.mk (KeepBut.trans zz0 hk (.inl rfl));replace HB:=Aside0.mk (hb);replace HI0:=Aside0.mk (hi);(try clear hb);(try clear hk);(try clear hi)))
    go_ret
    exact ⟨_,zz1,zR HO_3.out,zz2,zz3,zz0⟩
   replace c6:=Bool.eq_false_iff.mpr c6
   subst c6
   rw [if_neg (show ¬ (false=true) by decide)] at H
   obtain ⟨y345,hy345⟩:∃ y_:List Int,y_=(([1,1,2,3,4,7]:List Int)):=⟨_,rfl⟩
   replace H:((spec_l1Cur_among.f s0_0 t343 t344 y345).bind fun bt348=>(if 0≤x4_1 then (spec_l1Cur_work7.l0 k1 (x3_1.set (x4_1:Int).toNat (⟨bt348.1,(rd_T76 x3_1 x4_1).f1,(rd_T76 x3_1 x4_1).f2,(rd_T76 x3_1 x4_1).f3⟩:S76)) (wrap64 (x4_1 + 1)) s0_0 bt348.2.1 bt348.2.2) else (none)))=some (r1,r2,r3):=by first|(rw [hy345];with_reducible exact H)|(have H2_:=(Option.bind_some _ _).symm.trans H;rw [hy345];with_reducible exact H2_)|(have H2_:=(Option.bind_some _ _).symm.trans H;with_reducible exact H2_)|with_reducible exact H|(rw [hy345];exact H)|exact H
   have Ny345:=Aside0.mk hy345
   clear hy345
   replace H:=Option.bind_eq_some_iff.mp H
   obtain ⟨⟨t348,t349,t350⟩,A90,H⟩:=H
   try dsimp only at H
   have A9:=Aside0.mk A90
   clear A90
   by_cases c10:0≤x4_1
   rotate_left
   ·rw [if_neg c10] at H
    exact absurd H (by simp)
   rw [if_pos c10] at H
   have c10b0:=decide_eq_true c10
   clear c10
   obtain ⟨y351,hy351⟩:∃ y_:List (S76),y_=(x3_1.set (x4_1:Int).toNat (⟨t348,(rd_T76 x3_1 x4_1).f1,(rd_T76 x3_1 x4_1).f2,(rd_T76 x3_1 x4_1).f3⟩:S76)):=⟨_,rfl⟩
   replace H:(spec_l1Cur_work7.l0 k1 y351 (wrap64 (x4_1 + 1)) s0_0 t349 t350)=some (r1,r2,r3):=by first|(rw [hy351];with_reducible exact H)|(have H2_:=(Option.bind_some _ _).symm.trans H;rw [hy351];with_reducible exact H2_)|(have H2_:=(Option.bind_some _ _).symm.trans H;with_reducible exact H2_)|with_reducible exact H|(rw [hy351];exact H)|exact H
   have Ny351:=Aside0.mk hy351
   clear hy351
   have H':=Aside0.mk H
   clear H
   obtain ⟨Ao12,co12,eo12⟩:=Kd.R_slice HO_3.out
   subst eo12
   go_wp2_with (first|(go_at_call 137;(with_reducible refine (spec_l1Cur_one.calls g s0_0 x1001_1 x1002_1 4 false t343 t344 w0 _ ?side1 ?side2 A5.out).mono ?_);(case side1=>exact zz2);(case side2=>exact zz3);rintro e w13 ⟨rfl,hi,hb,hk⟩;replace HO_3:=Aside0.mk (Kd.R_mono (Kd.R_keep (IsS111.apart (show IsS111 w0 _ g s0_0 x1001_1 x1002_1 from by repeat (first|(with_reducible first|exact HI0.out|apply IsS111.alloc|apply IsS111.drewN|apply IsS111.drew|apply IsS111.set_1|apply IsS111.set_2)|exact HI0.out)) (zR HO_3.out) (by decide)) hk (fun _ h=>h.2)) (fun _ h=>h.1));replace HK:=Aside0.mk (KeepBut.trans zz0 hk (.inl rfl));replace HB:=Aside0.mk (hb);replace HI0:=Aside0.mk (hi);(try clear hb);(try clear hk);(try clear hi))|((with_reducible refine gate_dst (N:=21) rfl ?_);refine Kd.R_lit (Kd.int .i64) _ 3 ?hg (N:=21) ?hd (xs:=([1,1,2,3,4,7]:List Int)) (inner:=[.int .i64 1,.int .i64 1,.int .i64 2,.int .i64 3,.int .i64 4,.int .i64 7]) (ok:=fun _=>True) (okp:=fun _=>True) ?hr ?hp (fun _ hk=>hk) trivial (Below.refl _ _) (Nat.le_refl _) (by simp) ?_;(case hd=>rfl);(case hg=>rfl);(case hr=>first|(go_simp;done)|(go_simp;rfl));(case hp=>exact (Reps.one (show Kd.M (Kd.int .i64) _ _ _ 1 [.int .i64 1] from rfl) (Reps.one (show Kd.M (Kd.int .i64) _ _ _ 1 [.int .i64 1] from rfl) (Reps.one (show Kd.M (Kd.int .i64) _ _ _ 2 [.int .i64 2] from rfl) (Reps.one (show Kd.M (Kd.int .i64) _ _ _ 3 [.int .i64 3] from rfl) (Reps.one (show Kd.M (Kd.int .i64) _ _ _ 4 [.int .i64 4] from rfl) (Reps.one (show Kd.M (Kd.int .i64) _ _ _ 7 [.int .i64 7] from rfl) (Reps.none _ _))))))));intro v346 w14 ho15 hb hg_ hnew_;clear hg_ hnew_;(first|rw [←Ny345.out] at ho15|(simp only [Int.reduceToNat] at ho15;rw [←Ny345.out] at ho15));have n0_:=zRb HO_3 hb;have n1_:=Aside0.mk (Kd.R_lower ho15 (keep_size (w:=w) (g:=g) (row:=none) zz0));have n2_:=Aside0.mk (IsS111.below zz2 hb);have n3_:=Aside0.mk (KeepBut.trans zz0 (KeepBut.of_below hb g none) (.inl rfl));have n4_:=Aside0.mk (below_step zz3 hb);clear HO_3;clear HI0;clear HK;clear HB;have HO_3:=n0_;have HO347:=n1_;have HI0:=n2_;have HK:=n3_;have HB:=n4_;clear n0_ n1_ n2_ n3_ n4_;clear hb ho15;obtain ⟨Ao16,co16,eo16⟩:=Kd.R_slice HO347.out;subst eo16)|((with_reducible refine gate_callee (f:=138) rfl ?_);refine zgo 22 Try.func138 #[.pointer (some ⟨g,0,none⟩),.slice Ao16 y345.length co16] ?_;(with_reducible refine (spec_l1Cur_among.calls g s0_0 t343 t344 _ _ y345 t348 t349 t350 w0 _ ?side1 ?side2 ?side3 ?side4 ?side5 A9.out).mono ?_);(case side1=>exact zz2);(case side2=>exact zz3);(case side3=>exact zC ((Kd.R_reads' HO347.out).2.2));(case side4=>exact (Kd.R_reads' HO347.out).2.1);(case side5=>exact far_slice (IsS111.own_ne HI0.out HO347.out (by decide)));rintro e w17 ⟨rfl,hi,hb,hk⟩;refine ⟨_,rfl,?_⟩;replace HO_3:=Aside0.mk (Kd.R_mono (Kd.R_keep (IsS111.apart (show IsS111 w0 _ g s0_0 t343 t344 from by repeat (first|(with_reducible first|exact HI0.out|apply IsS111.alloc|apply IsS111.drewN|apply IsS111.drew|apply IsS111.set_1|apply IsS111.set_2)|exact HI0.out)) (zR HO_3.out) (by decide)) hk (fun _ h=>h.2)) (fun _ h=>h.1));replace HO347:=Aside0.mk (Kd.R_mono (Kd.R_keep (IsS111.apart (show IsS111 w0 _ g s0_0 t343 t344 from by repeat (first|(with_reducible first|exact HI0.out|apply IsS111.alloc|apply IsS111.drewN|apply IsS111.drew|apply IsS111.set_1|apply IsS111.set_2)|exact HI0.out)) (zR HO347.out) (by decide)) hk (fun _ h=>h.2)) (fun _ h=>h.1));replace HK:=Aside0.mk (KeepBut.trans zz0 hk (.inl rfl));replace HB:=Aside0.mk (hb);replace HI0:=Aside0.mk (hi);(try clear hb);(try clear hk);(try clear hi);have p11:0≤(x4_1:Int):=of_decide_eq_true za;have q11:(x4_1:Int)<((x3_1.length:Int):Int):=of_decide_eq_true za;obtain ⟨go11,co11,eo11,gb11,gl11,cl11,HG11⟩:=Kd.R_form HO_3.out (by omega);(first|cases eo11|(injection eo11 with ea_ en_ ec_;(first|subst ea_|(injection ea_ with ea_;subst ea_));subst ec_;clear en_));have GB11:=Aside0.mk gb11;have GG11:=Aside0.mk HG11;clear gb11 gl11 HG11;obtain ⟨ce11,hcl11,hM11,hcc11,hfr11⟩:=Kd.R_elem HO_3.out z76 (x4_1:Int) p11 q11;obtain rfl:=k76_openM hM11;have hx11_0:w17.cell? ⟨go11,(x4_1:Int).toNat * 4,none⟩=some (.int .i64 ((rd_T76 x3_1 x4_1).f0)):=hcc11 0 _ rfl;have hx11_1:w17.cell? ⟨go11,(x4_1:Int).toNat * 4 + 1,none⟩=some (.int .i64 ((rd_T76 x3_1 x4_1).f1)):=hcc11 1 _ rfl;have hx11_2:w17.cell? ⟨go11,(x4_1:Int).toNat * 4 + 2,none⟩=some (.int .i64 ((rd_T76 x3_1 x4_1).f2)):=hcc11 2 _ rfl;have hx11_3:w17.cell? ⟨go11,(x4_1:Int).toNat * 4 + 3,none⟩=some (.int .i64 ((rd_T76 x3_1 x4_1).f3)):=hcc11 3 _ rfl;have hf11_0:w17.frozen? ⟨go11,(x4_1:Int).toNat * 4,none⟩=false:=hfr11 0;have hf11_1:w17.frozen? ⟨go11,(x4_1:Int).toNat * 4 + 1,none⟩=false:=hfr11 1;have hf11_2:w17.frozen? ⟨go11,(x4_1:Int).toNat * 4 + 2,none⟩=false:=hfr11 2;have hf11_3:w17.frozen? ⟨go11,(x4_1:Int).toNat * 4 + 3,none⟩=false:=hfr11 3;(clear hcl11 hcc11 hfr11;(try clear hM11));replace p11:=eq_true p11;replace q11:=eq_true q11;have HX18:=Aside0.mk (show Kd.R k76 76 w17 w.heap.size (fun _=>True) (.slice (some ⟨go11,0,none⟩) x3_1.length co12) x3_1 from (zR HO_3.out));obtain ⟨ce18,hcl18,hM18,hcc18,hfr18⟩:=Kd.R_elem HX18.out z76 (x4_1:Int) (of_decide_eq_true za) (by have h_:(x4_1:Int)<((x3_1.length:Int):Int):=of_decide_eq_true za;first|exact h_|(have e_:=(Kd.R_reads' HO_3.out).1;omega)|simpa using h_);obtain rfl:=k76_openM hM18;have HP18:=Kd.R_seg HX18.out (x4_1:Int) (of_decide_eq_true za) (by have h_:(x4_1:Int)<((x3_1.length:Int):Int):=of_decide_eq_true za;first|exact h_|(have e_:=(Kd.R_reads' HO_3.out).1;omega)|simpa using h_) (seg:=[.int .i64 t348]) (j:=0) hcl18 hcc18 (show 1≤4 from by decide) (x':=(⟨t348,(rd_T76 x3_1 x4_1).f1,(rd_T76 x3_1 x4_1).f2,(rd_T76 x3_1 x4_1).f3⟩:S76)) (k76_mkM _ _ _ (⟨t348,(rd_T76 x3_1 x4_1).f1,(rd_T76 x3_1 x4_1).f2,(rd_T76 x3_1 x4_1).f3⟩:S76)) (fun _ hk=>hk);have hx18_0:=hcc18 0 _ rfl;(try simp only [show (k76).sz=4 from rfl,Nat.mul_one,Nat.add_zero] at hx18_0);have hf18_0:=hfr18 0;(try simp only [show (k76).sz=4 from rfl,Nat.mul_one,Nat.add_zero] at hf18_0);(clear hcl18 hcc18 hfr18;(try clear hM18)))|((with_reducible refine gate_store (t:=3) (p:=24) rfl ?_);(try (rw [drewN_self w17];generalize hq_:World.drewN w17 _=w17;have n0_:=Aside0.mk (Kd.R_at hq_ HO_3.out);have n1_:=Aside0.mk (Kd.R_at hq_ HO347.out);have n2_:=Aside0.mk (IsS111.at_ hq_ HI0.out);have n3_:=Aside0.mk (keep_at hq_ HK.out);have n4_:=Aside0.mk (below_at hq_ HB.out);(try replace hx11_0:=cell_at hq_ hx11_0);(try replace hx11_1:=cell_at hq_ hx11_1);(try replace hx11_2:=cell_at hq_ hx11_2);(try replace hx11_3:=cell_at hq_ hx11_3);(try replace hf11_0:=(fun {W_ W2_:World} {n_:Nat} {a_:Addr} {b_:Bool} (h_:W_.drewN n_=W2_) (e_:W_.frozen? a_=b_)=>(by subst h_;exact e_:W2_.frozen? a_=b_)) hq_ hf11_0);(try replace hf11_1:=(fun {W_ W2_:World} {n_:Nat} {a_:Addr} {b_:Bool} (h_:W_.drewN n_=W2_) (e_:W_.frozen? a_=b_)=>(by subst h_;exact e_:W2_.frozen? a_=b_)) hq_ hf11_1);(try replace hf11_2:=(fun {W_ W2_:World} {n_:Nat} {a_:Addr} {b_:Bool} (h_:W_.drewN n_=W2_) (e_:W_.frozen? a_=b_)=>(by subst h_;exact e_:W2_.frozen? a_=b_)) hq_ hf11_2);(try replace hf11_3:=(fun {W_ W2_:World} {n_:Nat} {a_:Addr} {b_:Bool} (h_:W_.drewN n_=W2_) (e_:W_.frozen? a_=b_)=>(by subst h_;exact e_:W2_.frozen? a_=b_)) hq_ hf11_3);(try replace hx18_0:=cell_at hq_ hx18_0);(try replace hf18_0:=(fun {W_ W2_:World} {n_:Nat} {a_:Addr} {b_:Bool} (h_:W_.drewN n_=W2_) (e_:W_.frozen? a_=b_)=>(by subst h_;exact e_:W2_.frozen? a_=b_)) hq_ hf18_0);clear hq_ HO_3 HO347 HI0 HK HB;have HO_3:=n0_;have HO347:=n1_;have HI0:=n2_;have HK:=n3_;have HB:=n4_;clear n0_ n1_ n2_ n3_ n4_;(try (have HX18:=Aside0.mk (show Kd.R k76 76 w17 w.heap.size (fun _=>True) (.slice (some ⟨go11,0,none⟩) x3_1.length co12) x3_1 from (zR HO_3.out))));(try (obtain ⟨ce18,hcl18,hM18,hcc18,hfr18⟩:=Kd.R_elem HX18.out z76 (x4_1:Int) (of_decide_eq_true za) (by have h_:(x4_1:Int)<((x3_1.length:Int):Int):=of_decide_eq_true za;first|exact h_|(have e_:=(Kd.R_reads' HO_3.out).1;omega)|simpa using h_)));(try (obtain rfl:=k76_openM hM18));(try (have HP18:=Kd.R_seg HX18.out (x4_1:Int) (of_decide_eq_true za) (by have h_:(x4_1:Int)<((x3_1.length:Int):Int):=of_decide_eq_true za;first|exact h_|(have e_:=(Kd.R_reads' HO_3.out).1;omega)|simpa using h_) (seg:=[.int .i64 t348]) (j:=0) hcl18 hcc18 (show 1≤4 from by decide) (x':=(⟨t348,(rd_T76 x3_1 x4_1).f1,(rd_T76 x3_1 x4_1).f2,(rd_T76 x3_1 x4_1).f3⟩:S76)) (k76_mkM _ _ _ (⟨t348,(rd_T76 x3_1 x4_1).f1,(rd_T76 x3_1 x4_1).f2,(rd_T76 x3_1 x4_1).f3⟩:S76)) (fun _ hk=>hk)));(try (have hx18_0:=hcc18 0 _ rfl));(try (try simp only [show (k76).sz=4 from rfl,Nat.mul_one,Nat.add_zero] at hx18_0));(try (have hf18_0:=hfr18 0));(try (try simp only [show (k76).sz=4 from rfl,Nat.mul_one,Nat.add_zero] at hf18_0));(try (clear hcl18 hcc18 hfr18;(try clear hM18)))));refine store_event (t:=3) (p:=24) (v:=?vo_w19) (w1:=(w17.setCell ⟨go11,(x4_1:Int).toNat * 4,none⟩ (.int .i64 t348))) ?hg ?ho ?hn ?hr ?_;(case ho=>rfl);(case hg=>rfl);(case hn=>rfl);(case hr=>first|(go_simp;done)|(go_simp;rfl));intro w19 hw;have hg:w17.grownBy w19 (some go11):=(by rw [hw];exact HP18.2);have hp_:Kd.R k76 76 w19 w.heap.size (fun _=>True) (.slice (some ⟨go11,0,none⟩) x3_1.length co12) y351:=(by rw [hw,Ny351.out];exact HP18.1);clear HP18;have n0_:=Aside0.mk (hp_);have n1_:=Aside0.mk (IsS111.grown zz2 hg (IsS111.own_ne HI0.out HO_3.out (by decide)));have n2_:=Aside0.mk (Kd.R_over' (v:=(.slice (some ⟨go11,0,none⟩) x3_1.length co12)) (zR HO347.out) (Kd.R_typed HO_3.out) (by decide) hg);have n3_:=Aside0.mk ((by rw [hw];exact below_set (HB.out) (Nat.le_trans HL.out GB11.out):Below w0.heap.size w0 w19));have n4_:=Aside0.mk (KeepBut.trans zz0 (KeepBut.of_grown hg g) (Kd.R_base2 HO_3.out));clear HO_3;clear HI0;clear HO347;clear HB;clear HK;have HO_3:=n0_;have HI0:=n1_;have HO347:=n2_;have HB:=n3_;have HK:=n4_;clear n0_ n1_ n2_ n3_ n4_;clear hg hw hp_))
   go_roundg k1
   case measure=>have:=HK1.out;omega
   case rel=>exact ⟨(y351),(wrap64 (x4_1 + 1)),(t349),(t350),zo,H',⟨by have:=HK1.out;omega⟩,⟨zR HO_3.out⟩,⟨zz2⟩,⟨zz0⟩,⟨zz3⟩⟩

/-! ### spec_l1Cur_machines: function 86 -/
def spec_l1Cur_machines.f (s0_0:List Int) (s0_1:Int) (s0_2:Int):Option (Int × Int × Int):=(spec_l1Cur_one.f s0_0 s0_1 s0_2 24).bind fun bt352=>(if bt352.1=true then ((spec_l1Cur_among.f s0_0 bt352.2.1 bt352.2.2 (([0,5,(-1)]:List Int))).bind fun bt358=>(some (bt358.1,bt358.2.1,bt358.2.2))) else ((spec_l1Cur_among.f s0_0 bt352.2.1 bt352.2.2 (([2,2,3,1,4]:List Int))).bind fun bt364=>(some (bt364.1,bt364.2.1,bt364.2.2))))
set_option maxHeartbeats 8000000 in
set_option maxRecDepth 100000 in
theorem spec_l1Cur_machines.calls (g:Nat) (s0_0:List Int) (s0_1:Int) (s0_2:Int) (r1:Int) (r2:Int) (r3:Int) (w0 w:World) (hI:IsS111 w0 w g s0_0 s0_1 s0_2) (hB:Below w0.heap.size w0 w) (h:spec_l1Cur_machines.f s0_0 s0_1 s0_2=some (r1,r2,r3)) :
  Calls Try.prog 86 #[.pointer (some ⟨g,0,none⟩)] w fun e w'=>e=.returned (.int .i64 r1)∧IsS111 w0 w' g s0_0 r2 r3∧Below w0.heap.size w0 w'∧KeepBut w w' g none:=by
 have HI0:=Aside0.mk hI
 have HK:=Aside0.mk (KeepBut.refl w g none)
 have HL:=Aside0.mk hB.size
 clear hI
 have HW0:=Aside0.mk hB.size
 have HB:=Aside0.mk hB
 clear hB
 have H:((spec_l1Cur_one.f s0_0 s0_1 s0_2 24).bind fun bt352=>(if bt352.1=true then ((spec_l1Cur_among.f s0_0 bt352.2.1 bt352.2.2 (([0,5,(-1)]:List Int))).bind fun bt358=>(some (bt358.1,bt358.2.1,bt358.2.2))) else ((spec_l1Cur_among.f s0_0 bt352.2.1 bt352.2.2 (([2,2,3,1,4]:List Int))).bind fun bt364=>(some (bt364.1,bt364.2.1,bt364.2.2)))))=some (r1,r2,r3):=h
 clear h
 replace H:=Option.bind_eq_some_iff.mp H
 obtain ⟨⟨t352,t353,t354⟩,A20,H⟩:=H
 try dsimp only at H
 have A2:=Aside0.mk A20
 clear A20
 by_cases c3:t352=true
 ·subst c3
  rw [if_pos rfl] at H
  obtain ⟨y355,hy355⟩:∃ y_:List Int,y_=(([0,5,(-1)]:List Int)):=⟨_,rfl⟩
  replace H:((spec_l1Cur_among.f s0_0 t353 t354 y355).bind fun bt358=>(some (bt358.1,bt358.2.1,bt358.2.2)))=some (r1,r2,r3):=by first|(rw [hy355];with_reducible exact H)|(have H2_:=(Option.bind_some _ _).symm.trans H;rw [hy355];with_reducible exact H2_)|(have H2_:=(Option.bind_some _ _).symm.trans H;with_reducible exact H2_)|with_reducible exact H|(rw [hy355];exact H)|exact H
  have Ny355:=Aside0.mk hy355
  clear hy355
  replace H:=Option.bind_eq_some_iff.mp H
  obtain ⟨⟨t358,t359,t360⟩,A40,H⟩:=H
  try dsimp only at H
  have A4:=Aside0.mk A40
  clear A40
  simp only [Option.some.injEq,Prod.mk.injEq] at H
  obtain ⟨rfl,rfl,rfl⟩:=H
  go_enter Try.func86,Try.ntmps86
  go_wp2_with (first|((with_reducible refine gate_callee (f:=137) rfl ?_);refine zgo 4 Try.func137 #[.pointer (some ⟨g,0,none⟩),.int .i64 24] ?_;(with_reducible refine (spec_l1Cur_one.calls g s0_0 s0_1 s0_2 24 true t353 t354 w0 _ ?side1 ?side2 A2.out).mono ?_);(case side1=>exact zz2);(case side2=>exact zz3);rintro e w5 ⟨rfl,hi,hb,hk⟩;refine ⟨_,rfl,?_⟩;replace HK:=Aside0.mk (KeepBut.trans zz0 hk (.inl rfl));replace HB:=Aside0.mk (hb);replace HI0:=Aside0.mk (hi);(try clear hb);(try clear hk);(try clear hi))|((with_reducible refine gate_dst (N:=6) rfl ?_);refine Kd.R_lit (Kd.int .i64) _ 3 ?hg (N:=6) ?hd (xs:=([0,5,(-1)]:List Int)) (inner:=[.int .i64 0,.int .i64 5,.int .i64 (-1)]) (ok:=fun _=>True) (okp:=fun _=>True) ?hr ?hp (fun _ hk=>hk) trivial (Below.refl _ _) (Nat.le_refl _) (by simp) ?_;(case hd=>rfl);(case hg=>rfl);(case hr=>first|(go_simp;done)|(go_simp;rfl));(case hp=>exact (Reps.one (show Kd.M (Kd.int .i64) _ _ _ 0 [.int .i64 0] from rfl) (Reps.one (show Kd.M (Kd.int .i64) _ _ _ 5 [.int .i64 5] from rfl) (Reps.one (show Kd.M (Kd.int .i64) _ _ _ (-1) [.int .i64 (-1)] from rfl) (Reps.none _ _)))));intro v356 w6 ho7 hb hg_ hnew_;clear hg_ hnew_;(first|rw [←Ny355.out] at ho7|(simp only [Int.reduceToNat] at ho7;rw [←Ny355.out] at ho7));have n0_:=Aside0.mk (Kd.R_lower ho7 (keep_size (w:=w) (g:=g) (row:=none) zz0));have n1_:=Aside0.mk (IsS111.below zz2 hb);have n2_:=Aside0.mk (KeepBut.trans zz0 (KeepBut.of_below hb g none) (.inl rfl));have n3_:=Aside0.mk (below_step zz3 hb);clear HI0;clear HK;clear HB;have HO357:=n0_;have HI0:=n1_;have HK:=n2_;have HB:=n3_;clear n0_ n1_ n2_ n3_;clear hb ho7;obtain ⟨Ao8,co8,eo8⟩:=Kd.R_slice HO357.out;subst eo8)|((with_reducible refine gate_callee (f:=138) rfl ?_);refine zgo 7 Try.func138 #[.pointer (some ⟨g,0,none⟩),.slice Ao8 y355.length co8] ?_;(with_reducible refine (spec_l1Cur_among.calls g s0_0 t353 t354 _ _ y355 t358 t359 t360 w0 _ ?side1 ?side2 ?side3 ?side4 ?side5 A4.out).mono ?_);(case side1=>exact zz2);(case side2=>exact zz3);(case side3=>exact zC ((Kd.R_reads' HO357.out).2.2));(case side4=>exact (Kd.R_reads' HO357.out).2.1);(case side5=>exact far_slice (IsS111.own_ne HI0.out HO357.out (by decide)));rintro e w9 ⟨rfl,hi,hb,hk⟩;refine ⟨_,rfl,?_⟩;replace HO357:=Aside0.mk (Kd.R_mono (Kd.R_keep (IsS111.apart (show IsS111 w0 _ g s0_0 t353 t354 from by repeat (first|(with_reducible first|exact HI0.out|apply IsS111.alloc|apply IsS111.drewN|apply IsS111.drew|apply IsS111.set_1|apply IsS111.set_2)|exact HI0.out)) (zR HO357.out) (by decide)) hk (fun _ h=>h.2)) (fun _ h=>h.1));replace HK:=Aside0.mk (KeepBut.trans zz0 hk (.inl rfl));replace HB:=Aside0.mk (hb);replace HI0:=Aside0.mk (hi);(try clear hb);(try clear hk);(try clear hi)))
  go_ret
  exact ⟨zz1,zz2,zz3,zz0⟩
 replace c3:=Bool.eq_false_iff.mpr c3
 subst c3
 rw [if_neg (show ¬ (false=true) by decide)] at H
 obtain ⟨y361,hy361⟩:∃ y_:List Int,y_=(([2,2,3,1,4]:List Int)):=⟨_,rfl⟩
 replace H:((spec_l1Cur_among.f s0_0 t353 t354 y361).bind fun bt364=>(some (bt364.1,bt364.2.1,bt364.2.2)))=some (r1,r2,r3):=by first|(rw [hy361];with_reducible exact H)|(have H2_:=(Option.bind_some _ _).symm.trans H;rw [hy361];with_reducible exact H2_)|(have H2_:=(Option.bind_some _ _).symm.trans H;with_reducible exact H2_)|with_reducible exact H|(rw [hy361];exact H)|exact H
 have Ny361:=Aside0.mk hy361
 clear hy361
 replace H:=Option.bind_eq_some_iff.mp H
 obtain ⟨⟨t364,t365,t366⟩,A100,H⟩:=H
 try dsimp only at H
 have A10:=Aside0.mk A100
 clear A100
 simp only [Option.some.injEq,Prod.mk.injEq] at H
 obtain ⟨rfl,rfl,rfl⟩:=H
 go_enter Try.func86,Try.ntmps86
 go_wp2_with (first|((with_reducible refine gate_callee (f:=137) rfl ?_);refine zgo 4 Try.func137 #[.pointer (some ⟨g,0,none⟩),.int .i64 24] ?_;(with_reducible refine (spec_l1Cur_one.calls g s0_0 s0_1 s0_2 24 false t353 t354 w0 _ ?side1 ?side2 A2.out).mono ?_);(case side1=>exact zz2);(case side2=>exact zz3);rintro e w11 ⟨rfl,hi,hb,hk⟩;refine ⟨_,rfl,?_⟩;replace HK:=Aside0.mk (KeepBut.trans zz0 hk (.inl rfl));replace HB:=Aside0.mk (hb);replace HI0:=Aside0.mk (hi);(try clear hb);(try clear hk);(try clear hi))|((with_reducible refine gate_dst (N:=9) rfl ?_);refine Kd.R_lit (Kd.int .i64) _ 3 ?hg (N:=9) ?hd (xs:=([2,2,3,1,4]:List Int)) (inner:=[.int .i64 2,.int .i64 2,.int .i64 3,.int .i64 1,.int .i64 4]) (ok:=fun _=>True) (okp:=fun _=>True) ?hr ?hp (fun _ hk=>hk) trivial (Below.refl _ _) (Nat.le_refl _) (by simp) ?_;(case hd=>rfl);(case hg=>rfl);(case hr=>first|(go_simp;done)|(go_simp;rfl));(case hp=>exact (Reps.one (show Kd.M (Kd.int .i64) _ _ _ 2 [.int .i64 2] from rfl) (Reps.one (show Kd.M (Kd.int .i64) _ _ _ 2 [.int .i64 2] from rfl) (Reps.one (show Kd.M (Kd.int .i64) _ _ _ 3 [.int .i64 3] from rfl) (Reps.one (show Kd.M (Kd.int .i64) _ _ _ 1 [.int .i64 1] from rfl) (Reps.one (show Kd.M (Kd.int .i64) _ _ _ 4 [.int .i64 4] from rfl) (Reps.none _ _)))))));intro v362 w12 ho13 hb hg_ hnew_;clear hg_ hnew_;(first|rw [←Ny361.out] at ho13|(simp only [Int.reduceToNat] at ho13;rw [←Ny361.out] at ho13));have n0_:=Aside0.mk (Kd.R_lower ho13 (keep_size (w:=w) (g:=g) (row:=none) zz0));have n1_:=Aside0.mk (IsS111.below zz2 hb);have n2_:=Aside0.mk (KeepBut.trans zz0 (KeepBut.of_below hb g none) (.inl rfl));have n3_:=Aside0.mk (below_step zz3 hb);clear HI0;clear HK;clear HB;have HO363:=n0_;have HI0:=n1_;have HK:=n2_;have HB:=n3_;clear n0_ n1_ n2_ n3_;clear hb ho13;obtain ⟨Ao14,co14,eo14⟩:=Kd.R_slice HO363.out;subst eo14)|((with_reducible refine gate_callee (f:=138) rfl ?_);refine zgo 10 Try.func138 #[.pointer (some ⟨g,0,none⟩),.slice Ao14 y361.length co14] ?_;(with_reducible refine (spec_l1Cur_among.calls g s0_0 t353 t354 _ _ y361 t364 t365 t366 w0 _ ?side1 ?side2 ?side3 ?side4 ?side5 A10.out).mono ?_);(case side1=>exact zz2);(case side2=>exact zz3);(case side3=>exact zC ((Kd.R_reads' HO363.out).2.2));(case side4=>exact (Kd.R_reads' HO363.out).2.1);(case side5=>exact far_slice (IsS111.own_ne HI0.out HO363.out (by decide)));rintro e w15 ⟨rfl,hi,hb,hk⟩;refine ⟨_,rfl,?_⟩;replace HO363:=Aside0.mk (Kd.R_mono (Kd.R_keep (IsS111.apart (show IsS111 w0 _ g s0_0 t353 t354 from by repeat (first|(with_reducible first|exact HI0.out|apply IsS111.alloc|apply IsS111.drewN|apply IsS111.drew|apply IsS111.set_1|apply IsS111.set_2)|exact HI0.out)) (zR HO363.out) (by decide)) hk (fun _ h=>h.2)) (fun _ h=>h.1));replace HK:=Aside0.mk (KeepBut.trans zz0 hk (.inl rfl));replace HB:=Aside0.mk (hb);replace HI0:=Aside0.mk (hi);(try clear hb);(try clear hk);(try clear hi)))
 go_ret
 exact ⟨zz1,zz2,zz3,zz0⟩

end Go.Proofs.Ytbcfmegepkhlpaa.XFnShared
-- minified
