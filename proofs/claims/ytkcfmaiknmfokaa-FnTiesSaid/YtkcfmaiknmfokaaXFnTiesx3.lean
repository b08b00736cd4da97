-- Written by a program of this session (the kit's print, widened). Proved here: what each function answers, for the arguments that its contract names.
import Derived.Test.YtkcfmaiknmfokaaXFnTiesx0
import Derived.Test.YtkcfmaiknmfokaaXFnTiesx1
import Derived.Test.YtkcfmaiknmfokaaXFnTiesx2
namespace Go.Proofs.Ytkcfmaiknmfokaa.XFnTies
open Go.RowKit Go.Proofs.YtkcfmaiknmfokaaW.PrintWords Go.Proofs.YtkcfmaiknmfokaaW.PrintLast Go.Proofs.YtkcfmaiknmfokaaW.PrintMore
attribute [local go_sem] max2_int min2_int max_two min_two max_three min_three max_four min_four   -- for this text's walks alone
attribute [local go_sem] fldS_52_0 fldS_52_1 fldS_52_2
set_option linter.unusedVariables false
set_option linter.unusedSimpArgs false

/-! ### spec_l1Cur_plain3: function 46 -/
def spec_l1Cur_plain3.l0:Nat→List (S44)→Int→List Int→Int→Int→Option ((List (S44)) × Int × Int)
 | 0,_,_,_,_,_=>none
 | k + 1,x3,x4,x1000,x1001,x1002=>if x4<(x3.length:Int) then (if 0≤x4 then ((some (x3.set (x4:Int).toNat (⟨(rd_T44 x3 x4).f0,(rd_T44 x3 x4).f1,0,(rd_T44 x3 x4).f3⟩:S44):List (S44))).bind fun y230=>(if x4>0 then ((spec_l1Cur_one.f x1000 x1001 x1002 3).bind fun bt231=>(if bt231.1=true then (if 0≤(wrap64 (x4 - 1)) then (if (wrap64 (x4 - 1))<(x3.length:Int) then ((some (y230.set (x4:Int).toNat (⟨(rd_T44 y230 (wrap64 (x4 - 1))).f0,(rd_T44 y230 x4).f1,(rd_T44 y230 x4).f2,(rd_T44 y230 x4).f3⟩:S44):List (S44))).bind fun y235=>(spec_l1Cur_plain3.l0 k (y235.set (x4:Int).toNat (⟨(rd_T44 y235 x4).f0,(rd_T44 y235 (wrap64 (x4 - 1))).f1,(rd_T44 y235 x4).f2,(rd_T44 y235 x4).f3⟩:S44)) (wrap64 (x4 + 1)) x1000 bt231.2.1 bt231.2.2)) else (none)) else (none)) else (spec_l1Cur_plain3.l0 k y230 (wrap64 (x4 + 1)) x1000 bt231.2.1 bt231.2.2))) else (spec_l1Cur_plain3.l0 k y230 (wrap64 (x4 + 1)) x1000 x1001 x1002))) else (none)) else (some (x3,x1001,x1002))
def spec_l1Cur_plain3.f (k:Nat) (s0_0:List Int) (s0_1:Int) (s0_2:Int):Option ((List (S44)) × Int × Int):=(spec_l1Cur_jobs.f k s0_0 s0_1 s0_2).bind fun bt222=>((spec_l1Cur_one.f s0_0 bt222.2.1 bt222.2.2 24).bind fun bt227=>(if bt227.1=true then (some (bt222.1,bt227.2.1,bt227.2.2)) else (spec_l1Cur_plain3.l0 k bt222.1 0 s0_0 bt227.2.1 bt227.2.2)))
theorem spec_l1Cur_plain3.mono_l:∀ k,(∀ y0 y1 y2 y3 y4,LeO (spec_l1Cur_plain3.l0 k y0 y1 y2 y3 y4) (spec_l1Cur_plain3.l0 (k + 1) y0 y1 y2 y3 y4))
 | 0=>fun _ _ _ _ _ r h=>by simp [spec_l1Cur_plain3.l0] at h
 | k + 1=>by
  have ih0:=spec_l1Cur_plain3.mono_l k
  ·intro y0 y1 y2 y3 y4
   unfold spec_l1Cur_plain3.l0
   repeat' first|(with_reducible first|apply ih0|exact spec_l1Cur_jobs.mono _ _ _ _|exact LeO.refl _|exact LeO.none _|refine LeO.ite ?_ ?_|refine LeO.bind ?_ (fun _=>?_))|apply ih0|exact spec_l1Cur_jobs.mono _ _ _ _|exact LeO.none _|refine LeO.ite ?_ ?_|refine LeO.bind ?_ (fun _=>?_)
theorem spec_l1Cur_plain3.mono:∀ a0 a1 a2 k,LeO (spec_l1Cur_plain3.f k a0 a1 a2) (spec_l1Cur_plain3.f (k + 1) a0 a1 a2):=by
 intro a0 a1 a2 k
 have ih0:=spec_l1Cur_plain3.mono_l k
 unfold spec_l1Cur_plain3.f
 repeat' first|(with_reducible first|apply ih0|exact spec_l1Cur_jobs.mono _ _ _ _|exact LeO.refl _|exact LeO.none _|refine LeO.ite ?_ ?_|refine LeO.bind ?_ (fun _=>?_))|apply ih0|exact spec_l1Cur_jobs.mono _ _ _ _|exact LeO.none _|refine LeO.ite ?_ ?_|refine LeO.bind ?_ (fun _=>?_)
set_option maxHeartbeats 8000000 in
set_option maxRecDepth 100000 in
theorem spec_l1Cur_plain3.calls (k:Nat) (g:Nat) (s0_0:List Int) (s0_1:Int) (s0_2:Int) (r1:List (S44)) (r2:Int) (r3:Int) (w0 w:World) (hI:IsS52 w0 w g s0_0 s0_1 s0_2) (hB:Below w0.heap.size w0 w) (h:spec_l1Cur_plain3.f k s0_0 s0_1 s0_2=some (r1,r2,r3)) :
  Calls Try.prog 46 #[.pointer (some ⟨g,0,none⟩)] w fun e w'=>∃ v0_:Value,e=.returned (v0_)∧Kd.R k44 44 w' w.heap.size (fun _=>True) v0_ r1∧IsS52 w0 w' g s0_0 r2 r3∧Below w0.heap.size w0 w'∧KeepBut w w' g none:=by
 have HI0:=Aside0.mk hI
 have HK:=Aside0.mk (KeepBut.refl w g none)
 have HL:=Aside0.mk hB.size
 clear hI
 have HW0:=Aside0.mk hB.size
 have HB:=Aside0.mk hB
 clear hB
 have H:((spec_l1Cur_jobs.f k s0_0 s0_1 s0_2).bind fun bt222=>((spec_l1Cur_one.f s0_0 bt222.2.1 bt222.2.2 24).bind fun bt227=>(if bt227.1=true then (some (bt222.1,bt227.2.1,bt227.2.2)) else (spec_l1Cur_plain3.l0 k bt222.1 0 s0_0 bt227.2.1 bt227.2.2))))=some (r1,r2,r3):=h
 clear h
 replace H:=Option.bind_eq_some_iff.mp H
 obtain ⟨⟨t222,t225,t226⟩,A20,H⟩:=H
 try dsimp only at H
 have A2:=Aside0.mk A20
 clear A20
 replace H:=Option.bind_eq_some_iff.mp H
 obtain ⟨⟨t227,t228,t229⟩,A30,H⟩:=H
 try dsimp only at H
 have A3:=Aside0.mk A30
 clear A30
 by_cases c4:t227=true
 ·subst c4
  rw [if_pos rfl] at H
  simp only [Option.some.injEq,Prod.mk.injEq] at H
  obtain ⟨rfl,rfl,rfl⟩:=H
  go_enter Try.func46,Try.ntmps46
  go_wp2_with (first|((with_reducible refine gate_callee (f:=45) rfl ?_);refine zgo 6 Try.func45 #[.pointer (some ⟨g,0,none⟩)] ?_;(with_reducible refine (spec_l1Cur_jobs.calls k g s0_0 s0_1 s0_2 t222 t225 t226 w0 _ ?side1 ?side2 A2.out).mono ?_);(case side1=>exact zz2);(case side2=>exact zz3);rintro e w5 ⟨v223,rfl,ho0,hi,hb,hk⟩;refine ⟨_,rfl,?_⟩;have HO224:=Aside0.mk (Kd.R_lower ho0 (keep_size (w:=w) (g:=g) (row:=none) zz0));replace HK:=Aside0.mk (KeepBut.trans zz0 hk (.inl rfl));replace HB:=Aside0.mk (hb);replace HI0:=Aside0.mk (hi);(try clear hb);(try clear hk);(try clear hi);(try clear ho0))|((with_reducible refine gate_callee (f:=43) rfl ?_);refine zgo 8 Try.func43 #[.pointer (some ⟨g,0,none⟩),.int .i64 24] ?_;(with_reducible refine (spec_l1Cur_one.calls g s0_0 t225 t226 24 true t228 t229 w0 _ ?side1 ?side2 A3.out).mono ?_);(case side1=>exact zz2);(case side2=>exact zz3);rintro e w6 ⟨rfl,hi,hb,hk⟩;refine ⟨_,rfl,?_⟩;replace HO224:=Aside0.mk (Kd.R_mono (Kd.R_keep (IsS52.apart (show IsS52 w0 _ g s0_0 t225 t226 from by repeat (first|(with_reducible first|exact HI0.out|apply IsS52.alloc|apply IsS52.drewN|apply IsS52.drew|apply IsS52.set_1|apply IsS52.set_2)|exact HI0.out)) (zR HO224.out) (by decide)) hk (fun _ h=>h.2)) (fun _ h=>h.1));replace HK:=Aside0.mk (KeepBut.trans zz0 hk (.inl rfl));replace HB:=Aside0.mk (hb);replace HI0:=Aside0.mk (hi);(try clear hb);(try clear hk);(try clear hi)))
  go_ret
  exact ⟨_,zz1,zR HO224.out,zz2,zz3,zz0⟩
 replace c4:=Bool.eq_false_iff.mpr c4
 subst c4
 rw [if_neg (show ¬ (false=true) by decide)] at H
 have H':=Aside0.mk H
 clear H
 go_enter Try.func46,Try.ntmps46
 go_wp2_with (first|((with_reducible refine gate_callee (f:=45) rfl ?_);refine zgo 6 Try.func45 #[.pointer (some ⟨g,0,none⟩)] ?_;(with_reducible refine (spec_l1Cur_jobs.calls k g s0_0 s0_1 s0_2 t222 t225 t226 w0 _ ?side1 ?side2 A2.out).mono ?_);(case side1=>exact zz2);(case side2=>exact zz3);rintro e w7 ⟨v223,rfl,ho0,hi,hb,hk⟩;refine ⟨_,rfl,?_⟩;have HO224:=Aside0.mk (Kd.R_lower ho0 (keep_size (w:=w) (g:=g) (row:=none) zz0));replace HK:=Aside0.mk (KeepBut.trans zz0 hk (.inl rfl));replace HB:=Aside0.mk (hb);replace HI0:=Aside0.mk (hi);(try clear hb);(try clear hk);(try clear hi);(try clear ho0))|((with_reducible refine gate_callee (f:=43) rfl ?_);refine zgo 8 Try.func43 #[.pointer (some ⟨g,0,none⟩),.int .i64 24] ?_;(with_reducible refine (spec_l1Cur_one.calls g s0_0 t225 t226 24 false t228 t229 w0 _ ?side1 ?side2 A3.out).mono ?_);(case side1=>exact zz2);(case side2=>exact zz3);rintro e w8 ⟨rfl,hi,hb,hk⟩;refine ⟨_,rfl,?_⟩;replace HO224:=Aside0.mk (Kd.R_mono (Kd.R_keep (IsS52.apart (show IsS52 w0 _ g s0_0 t225 t226 from by repeat (first|(with_reducible first|exact HI0.out|apply IsS52.alloc|apply IsS52.drewN|apply IsS52.drew|apply IsS52.set_1|apply IsS52.set_2)|exact HI0.out)) (zR HO224.out) (by decide)) hk (fun _ h=>h.2)) (fun _ h=>h.1));replace HK:=Aside0.mk (KeepBut.trans zz0 hk (.inl rfl));replace HB:=Aside0.mk (hb);replace HI0:=Aside0.mk (hi);(try clear hb);(try clear hk);(try clear hi)))
 try simp only [Act.put,List.setIfInBounds_toArray,List.set_cons_succ,List.set_cons_zero]
 go_loopg [4] k (fun kq v4 w'=>∃ (x3_1:List (S44)) (x4_1:Int) (x1001_1:Int) (x1002_1:Int),v4=.int .i64 x4_1∧Aside0 (spec_l1Cur_plain3.l0 kq x3_1 x4_1 s0_0 x1001_1 x1002_1=some (r1,r2,r3))∧Aside0 (kq≤k)∧Aside0 (Kd.R k44 44 w' w.heap.size (fun _=>True) v223 x3_1)∧Aside0 (IsS52 w0 w' g s0_0 x1001_1 x1002_1)∧Aside0 (KeepBut w w' g none)∧Aside0 (Below w0.heap.size w0 w'))
 case atStart=>exact ⟨(t222),(0),(t228),(t229),zo,H',⟨Nat.le_refl _⟩,⟨zR HO224.out⟩,⟨zz2⟩,⟨zz0⟩,⟨zz3⟩⟩
 case round=>
  clear H'
  obtain ⟨x3_1,x4_1,x1001_1,x1002_1,rfl,HA,HK1,HO_3,HI0,HK,HB⟩:=hrel
  cases gk with
  | zero=>exact absurd HA.out (by simp [spec_l1Cur_plain3.l0])
  | succ k1=>
   have H:=HA.out
   clear HA
   simp only [spec_l1Cur_plain3.l0] at H
   by_cases c9:x4_1<(x3_1.length:Int)
   rotate_left
   ·rw [if_neg c9] at H
    have c9b0:=decide_eq_false c9
    clear c9
    simp only [Option.some.injEq,Prod.mk.injEq] at H
    obtain ⟨rfl,rfl,rfl⟩:=H
    obtain ⟨Ao35,co35,eo35⟩:=Kd.R_slice HO_3.out
    subst eo35
    go_wp2
    go_ret
    exact ⟨_,zz1,zR HO_3.out,zz2,zz3,zz0⟩
   rw [if_pos c9] at H
   have c9b0:=decide_eq_true c9
   clear c9
   by_cases c10:0≤x4_1
   rotate_left
   ·rw [if_neg c10] at H
    exact absurd H (by simp)
   rw [if_pos c10] at H
   have c10b0:=decide_eq_true c10
   clear c10
   obtain ⟨y230,hy230⟩:∃ y_:List (S44),y_=(x3_1.set (x4_1:Int).toNat (⟨(rd_T44 x3_1 x4_1).f0,(rd_T44 x3_1 x4_1).f1,0,(rd_T44 x3_1 x4_1).f3⟩:S44)):=⟨_,rfl⟩
   replace H:(if x4_1>0 then ((spec_l1Cur_one.f s0_0 x1001_1 x1002_1 3).bind fun bt231=>(if bt231.1=true then (if 0≤(wrap64 (x4_1 - 1)) then (if (wrap64 (x4_1 - 1))<(x3_1.length:Int) then ((some (y230.set (x4_1:Int).toNat (⟨(rd_T44 y230 (wrap64 (x4_1 - 1))).f0,(rd_T44 y230 x4_1).f1,(rd_T44 y230 x4_1).f2,(rd_T44 y230 x4_1).f3⟩:S44):List (S44))).bind fun y235=>(spec_l1Cur_plain3.l0 k1 (y235.set (x4_1:Int).toNat (⟨(rd_T44 y235 x4_1).f0,(rd_T44 y235 (wrap64 (x4_1 - 1))).f1,(rd_T44 y235 x4_1).f2,(rd_T44 y235 x4_1).f3⟩:S44)) (wrap64 (x4_1 + 1)) s0_0 bt231.2.1 bt231.2.2)) else (none)) else (none)) else (spec_l1Cur_plain3.l0 k1 y230 (wrap64 (x4_1 + 1)) s0_0 bt231.2.1 bt231.2.2))) else (spec_l1Cur_plain3.l0 k1 y230 (wrap64 (x4_1 + 1)) s0_0 x1001_1 x1002_1))=some (r1,r2,r3):=by first|(rw [hy230];with_reducible exact H)|(have H2_:=(Option.bind_some _ _).symm.trans H;rw [hy230];with_reducible exact H2_)|(have H2_:=(Option.bind_some _ _).symm.trans H;with_reducible exact H2_)|with_reducible exact H|(rw [hy230];exact H)|exact H
   have Ny230:=Aside0.mk hy230
   clear hy230
   by_cases c12:x4_1>0
   rotate_left
   ·rw [if_neg c12] at H
    have c12b0:=decide_eq_false c12
    clear c12
    have H':=Aside0.mk H
    clear H
    obtain ⟨Ao32,co32,eo32⟩:=Kd.R_slice HO_3.out
    subst eo32
    have p11:0≤(x4_1:Int):=of_decide_eq_true za
    have q11:(x4_1:Int)<((x3_1.length:Int):Int):=of_decide_eq_true za
    obtain ⟨go11,co11,eo11,gb11,gl11,cl11,HG11⟩:=Kd.R_form HO_3.out (by omega)
    (first|cases eo11|(injection eo11 with ea_ en_ ec_;(first|subst ea_|(injection ea_ with ea_;subst ea_));subst ec_;clear en_))
    have GB11:=Aside0.mk gb11
    have GG11:=Aside0.mk HG11
    clear gb11 gl11 HG11
    obtain ⟨ce11,hcl11,hM11,hcc11,hfr11⟩:=Kd.R_elem HO_3.out z44 (x4_1:Int) p11 q11
    obtain rfl:=k44_openM hM11
    have hx11_0:wr.cell? ⟨go11,(x4_1:Int).toNat * 4,none⟩=some (.int .i64 ((rd_T44 x3_1 x4_1).f0)):=hcc11 0 _ rfl
    have hx11_1:wr.cell? ⟨go11,(x4_1:Int).toNat * 4 + 1,none⟩=some (.int .i64 ((rd_T44 x3_1 x4_1).f1)):=hcc11 1 _ rfl
    have hx11_2:wr.cell? ⟨go11,(x4_1:Int).toNat * 4 + 2,none⟩=some (.int .i64 ((rd_T44 x3_1 x4_1).f2)):=hcc11 2 _ rfl
    have hx11_3:wr.cell? ⟨go11,(x4_1:Int).toNat * 4 + 3,none⟩=some (.int .i64 ((rd_T44 x3_1 x4_1).f3)):=hcc11 3 _ rfl
    have hf11_0:wr.frozen? ⟨go11,(x4_1:Int).toNat * 4,none⟩=false:=hfr11 0
    have hf11_1:wr.frozen? ⟨go11,(x4_1:Int).toNat * 4 + 1,none⟩=false:=hfr11 1
    have hf11_2:wr.frozen? ⟨go11,(x4_1:Int).toNat * 4 + 2,none⟩=false:=hfr11 2
    have hf11_3:wr.frozen? ⟨go11,(x4_1:Int).toNat * 4 + 3,none⟩=false:=hfr11 3
    (clear hcl11 hcc11 hfr11;(try clear hM11))
    replace p11:=eq_true p11
    replace q11:=eq_true q11
    have HX33:=Aside0.mk (show Kd.R k44 44 wr w.heap.size (fun _=>True) (.slice (some ⟨go11,0,none⟩) x3_1.length co32) x3_1 from (zR HO_3.out))
    obtain ⟨ce33,hcl33,hM33,hcc33,hfr33⟩:=Kd.R_elem HX33.out z44 (x4_1:Int) (of_decide_eq_true za) (by have h_:(x4_1:Int)<((x3_1.length:Int):Int):=of_decide_eq_true za;first|exact h_|(have e_:=(Kd.R_reads' HO_3.out).1;omega)|simpa using h_)
    obtain rfl:=k44_openM hM33
    have HP33:=Kd.R_seg HX33.out (x4_1:Int) (of_decide_eq_true za) (by have h_:(x4_1:Int)<((x3_1.length:Int):Int):=of_decide_eq_true za;first|exact h_|(have e_:=(Kd.R_reads' HO_3.out).1;omega)|simpa using h_) (seg:=[.int .i64 0]) (j:=2) hcl33 hcc33 (show 3≤4 from by decide) (x':=(⟨(rd_T44 x3_1 x4_1).f0,(rd_T44 x3_1 x4_1).f1,0,(rd_T44 x3_1 x4_1).f3⟩:S44)) (k44_mkM _ _ _ (⟨(rd_T44 x3_1 x4_1).f0,(rd_T44 x3_1 x4_1).f1,0,(rd_T44 x3_1 x4_1).f3⟩:S44)) (fun _ hk=>hk)
    have hx33_2:=hcc33 2 _ rfl
    (try simp only [show (k44).sz=4 from rfl,Nat.mul_one,Nat.add_zero] at hx33_2)
    have hf33_2:=hfr33 2
    (try simp only [show (k44).sz=4 from rfl,Nat.mul_one,Nat.add_zero] at hf33_2)
    (clear hcl33 hcc33 hfr33;(try clear hM33))
    go_wp2_with (first|((with_reducible refine gate_store (t:=3) (p:=19) rfl ?_);(try (rw [drewN_self wr];generalize hq_:World.drewN wr _=wr;have n0_:=Aside0.mk (Kd.R_at hq_ HO_3.out);have n1_:=Aside0.mk (IsS52.at_ hq_ HI0.out);have n2_:=Aside0.mk (keep_at hq_ HK.out);have n3_:=Aside0.mk (below_at hq_ HB.out);(try replace hx11_0:=cell_at hq_ hx11_0);(try replace hx11_1:=cell_at hq_ hx11_1);(try replace hx11_2:=cell_at hq_ hx11_2);(try replace hx11_3:=cell_at hq_ hx11_3);(try replace hf11_0:=(fun {W_ W2_:World} {n_:Nat} {a_:Addr} {b_:Bool} (h_:W_.drewN n_=W2_) (e_:W_.frozen? a_=b_)=>(by subst h_;exact e_:W2_.frozen? a_=b_)) hq_ hf11_0);(try replace hf11_1:=(fun {W_ W2_:World} {n_:Nat} {a_:Addr} {b_:Bool} (h_:W_.drewN n_=W2_) (e_:W_.frozen? a_=b_)=>(by subst h_;exact e_:W2_.frozen? a_=b_)) hq_ hf11_1);(try replace hf11_2:=(fun {W_ W2_:World} {n_:Nat} {a_:Addr} {b_:Bool} (h_:W_.drewN n_=W2_) (e_:W_.frozen? a_=b_)=>(by subst h_;exact e_:W2_.frozen? a_=b_)) hq_ hf11_2);(try replace hf11_3:=(fun {W_ W2_:World} {n_:Nat} {a_:Addr} {b_:Bool} (h_:W_.drewN n_=W2_) (e_:W_.frozen? a_=b_)=>(by subst h_;exact e_:W2_.frozen? a_=b_)) hq_ hf11_3);(try replace hx33_2:=cell_at hq_ hx33_2);(try replace hf33_2:=(fun {W_ W2_:World} {n_:Nat} {a_:Addr} {b_:Bool} (h_:W_.drewN n_=W2_) (e_:W_.frozen? a_=b_)=>(by subst h_;exact e_:W2_.frozen? a_=b_)) hq_ hf33_2);clear hq_ HO_3 HI0 HK HB;have HO_3:=n0_;have HI0:=n1_;have HK:=n2_;have HB:=n3_;clear n0_ n1_ n2_ n3_;(try (have HX33:=Aside0.mk (show Kd.R k44 44 wr w.heap.size (fun _=>True) (.slice (some ⟨go11,0,none⟩) x3_1.length co32) x3_1 from (zR HO_3.out))));(try (obtain ⟨ce33,hcl33,hM33,hcc33,hfr33⟩:=Kd.R_elem HX33.out z44 (x4_1:Int) (of_decide_eq_true za) (by have h_:(x4_1:Int)<((x3_1.length:Int):Int):=of_decide_eq_true za;first|exact h_|(have e_:=(Kd.R_reads' HO_3.out).1;omega)|simpa using h_)));(try (obtain rfl:=k44_openM hM33));(try (have HP33:=Kd.R_seg HX33.out (x4_1:Int) (of_decide_eq_true za) (by have h_:(x4_1:Int)<((x3_1.length:Int):Int):=of_decide_eq_true za;first|exact h_|(have e_:=(Kd.R_reads' HO_3.out).1;omega)|simpa using h_) (seg:=[.int .i64 0]) (j:=2) hcl33 hcc33 (show 3≤4 from by decide) (x':=(⟨(rd_T44 x3_1 x4_1).f0,(rd_T44 x3_1 x4_1).f1,0,(rd_T44 x3_1 x4_1).f3⟩:S44)) (k44_mkM _ _ _ (⟨(rd_T44 x3_1 x4_1).f0,(rd_T44 x3_1 x4_1).f1,0,(rd_T44 x3_1 x4_1).f3⟩:S44)) (fun _ hk=>hk)));(try (have hx33_2:=hcc33 2 _ rfl));(try (try simp only [show (k44).sz=4 from rfl,Nat.mul_one,Nat.add_zero] at hx33_2));(try (have hf33_2:=hfr33 2));(try (try simp only [show (k44).sz=4 from rfl,Nat.mul_one,Nat.add_zero] at hf33_2));(try (clear hcl33 hcc33 hfr33;(try clear hM33)))));refine store_event (t:=3) (p:=19) (v:=?vo_w34) (w1:=(wr.setCell ⟨go11,(x4_1:Int).toNat * 4 + 2,none⟩ (.int .i64 0))) ?hg ?ho ?hn ?hr ?_;(case ho=>rfl);(case hg=>rfl);(case hn=>rfl);(case hr=>first|(go_simp;done)|(go_simp;rfl));intro w34 hw;have hg:wr.grownBy w34 (some go11):=(by rw [hw];exact HP33.2);have hp_:Kd.R k44 44 w34 w.heap.size (fun _=>True) (.slice (some ⟨go11,0,none⟩) x3_1.length co32) y230:=(by rw [hw,Ny230.out];exact HP33.1);clear HP33;have n0_:=Aside0.mk (hp_);have n1_:=Aside0.mk (IsS52.grown zz2 hg (IsS52.own_ne HI0.out HO_3.out (by decide)));have n2_:=Aside0.mk ((by rw [hw];exact below_set (HB.out) (Nat.le_trans HL.out GB11.out):Below w0.heap.size w0 w34));have n3_:=Aside0.mk (KeepBut.trans zz0 (KeepBut.of_grown hg g) (Kd.R_base2 HO_3.out));clear HO_3;clear HI0;clear HB;clear HK;have HO_3:=n0_;have HI0:=n1_;have HB:=n2_;have HK:=n3_;clear n0_ n1_ n2_ n3_;clear hg hw hp_))
    go_roundg k1
    case measure=>have:=HK1.out;omega
    case rel=>exact ⟨(y230),(wrap64 (x4_1 + 1)),(x1001_1),(x1002_1),zo,H',⟨by have:=HK1.out;omega⟩,⟨zR HO_3.out⟩,⟨zz2⟩,⟨zz0⟩,⟨zz3⟩⟩
   rw [if_pos c12] at H
   have c12b0:=decide_eq_true c12
   clear c12
   replace H:=Option.bind_eq_some_iff.mp H
   obtain ⟨⟨t231,t232,t233⟩,A130,H⟩:=H
   try dsimp only at H
   have A13:=Aside0.mk A130
   clear A130
   by_cases c14:t231=true
   rotate_left
   ·replace c14:=Bool.eq_false_iff.mpr c14
    subst c14
    rw [if_neg (show ¬ (false=true) by decide)] at H
    have H':=Aside0.mk H
    clear H
    obtain ⟨Ao28,co28,eo28⟩:=Kd.R_slice HO_3.out
    subst eo28
    have p11:0≤(x4_1:Int):=of_decide_eq_true za
    have q11:(x4_1:Int)<((x3_1.length:Int):Int):=of_decide_eq_true za
    obtain ⟨go11,co11,eo11,gb11,gl11,cl11,HG11⟩:=Kd.R_form HO_3.out (by omega)
    (first|cases eo11|(injection eo11 with ea_ en_ ec_;(first|subst ea_|(injection ea_ with ea_;subst ea_));subst ec_;clear en_))
    have GB11:=Aside0.mk gb11
    have GG11:=Aside0.mk HG11
    clear gb11 gl11 HG11
    obtain ⟨ce11,hcl11,hM11,hcc11,hfr11⟩:=Kd.R_elem HO_3.out z44 (x4_1:Int) p11 q11
    obtain rfl:=k44_openM hM11
    have hx11_0:wr.cell? ⟨go11,(x4_1:Int).toNat * 4,none⟩=some (.int .i64 ((rd_T44 x3_1 x4_1).f0)):=hcc11 0 _ rfl
    have hx11_1:wr.cell? ⟨go11,(x4_1:Int).toNat * 4 + 1,none⟩=some (.int .i64 ((rd_T44 x3_1 x4_1).f1)):=hcc11 1 _ rfl
    have hx11_2:wr.cell? ⟨go11,(x4_1:Int).toNat * 4 + 2,none⟩=some (.int .i64 ((rd_T44 x3_1 x4_1).f2)):=hcc11 2 _ rfl
    have hx11_3:wr.cell? ⟨go11,(x4_1:Int).toNat * 4 + 3,none⟩=some (.int .i64 ((rd_T44 x3_1 x4_1).f3)):=hcc11 3 _ rfl
    have hf11_0:wr.frozen? ⟨go11,(x4_1:Int).toNat * 4,none⟩=false:=hfr11 0
    have hf11_1:wr.frozen? ⟨go11,(x4_1:Int).toNat * 4 + 1,none⟩=false:=hfr11 1
    have hf11_2:wr.frozen? ⟨go11,(x4_1:Int).toNat * 4 + 2,none⟩=false:=hfr11 2
    have hf11_3:wr.frozen? ⟨go11,(x4_1:Int).toNat * 4 + 3,none⟩=false:=hfr11 3
    (clear hcl11 hcc11 hfr11;(try clear hM11))
    replace p11:=eq_true p11
    replace q11:=eq_true q11
    have HX29:=Aside0.mk (show Kd.R k44 44 wr w.heap.size (fun _=>True) (.slice (some ⟨go11,0,none⟩) x3_1.length co28) x3_1 from (zR HO_3.out))
    obtain ⟨ce29,hcl29,hM29,hcc29,hfr29⟩:=Kd.R_elem HX29.out z44 (x4_1:Int) (of_decide_eq_true za) (by have h_:(x4_1:Int)<((x3_1.length:Int):Int):=of_decide_eq_true za;first|exact h_|(have e_:=(Kd.R_reads' HO_3.out).1;omega)|simpa using h_)
    obtain rfl:=k44_openM hM29
    have HP29:=Kd.R_seg HX29.out (x4_1:Int) (of_decide_eq_true za) (by have h_:(x4_1:Int)<((x3_1.length:Int):Int):=of_decide_eq_true za;first|exact h_|(have e_:=(Kd.R_reads' HO_3.out).1;omega)|simpa using h_) (seg:=[.int .i64 0]) (j:=2) hcl29 hcc29 (show 3≤4 from by decide) (x':=(⟨(rd_T44 x3_1 x4_1).f0,(rd_T44 x3_1 x4_1).f1,0,(rd_T44 x3_1 x4_1).f3⟩:S44)) (k44_mkM _ _ _ (⟨(rd_T44 x3_1 x4_1).f0,(rd_T44 x3_1 x4_1).f1,0,(rd_T44 x3_1 x4_1).f3⟩:S44)) (fun _ hk=>hk)
    have hx29_2:=hcc29 2 _ rfl
    (try simp only [show (k44).sz=4 from rfl,Nat.mul_one,Nat.add_zero] at hx29_2)
    have hf29_2:=hfr29 2
    (try simp only [show (k44).sz=4 from rfl,Nat.mul_one,Nat.add_zero] at hf29_2)
    (clear hcl29 hcc29 hfr29;(try clear hM29))
    go_wp2_with (first|((with_reducible refine gate_store (t:=3) (p:=19) rfl ?_);(try (rw [drewN_self wr];generalize hq_:World.drewN wr _=wr;have n0_:=Aside0.mk (Kd.R_at hq_ HO_3.out);have n1_:=Aside0.mk (IsS52.at_ hq_ HI0.out);have n2_:=Aside0.mk (keep_at hq_ HK.out);have n3_:=Aside0.mk (below_at hq_ HB.out);(try replace hx11_0:=cell_at hq_ hx11_0);(try replace hx11_1:=cell_at hq_ hx11_1);(try replace hx11_2:=cell_at hq_ hx11_2);(try replace hx11_3:=cell_at hq_ hx11_3);(try replace hf11_0:=(fun {W_ W2_:World} {n_:Nat} {a_:Addr} {b_:Bool} (h_:W_.drewN n_=W2_) (e_:W_.frozen? a_=b_)=>(by subst h_;exact e_:W2_.frozen? a_=b_)) hq_ hf11_0);(try replace hf11_1:=(fun {W_ W2_:World} {n_:Nat} {a_:Addr} {b_:Bool} (h_:W_.drewN n_=W2_) (e_:W_.frozen? a_=b_)=>(by subst h_;exact e_:W2_.frozen? a_=b_)) hq_ hf11_1);(try replace hf11_2:=(fun {W_ W2_:World} {n_:Nat} {a_:Addr} {b_:Bool} (h_:W_.drewN n_=W2_) (e_:W_.frozen? a_=b_)=>(by subst h_;exact e_:W2_.frozen? a_=b_)) hq_ hf11_2);(try replace hf11_3:=(fun {W_ W2_:World} {n_:Nat} {a_:Addr} {b_:Bool} (h_:W_.drewN n_=W2_) (e_:W_.frozen? a_=b_)=>(by subst h_;exact e_:W2_.frozen? a_=b_)) hq_ hf11_3);(try replace hx29_2:=cell_at hq_ hx29_2);(try replace hf29_2:=(fun {W_ W2_:World} {n_:Nat} {a_:Addr} {b_:Bool} (h_:W_.drewN n_=W2_) (e_:W_.frozen? a_=b_)=>(by subst h_;exact e_:W2_.frozen? a_=b_)) hq_ hf29_2);clear hq_ HO_3 HI0 HK HB;have HO_3:=n0_;have HI0:=n1_;have HK:=n2_;have HB:=n3_;clear n0_ n1_ n2_ n3_;(try (have HX29:=Aside0.mk (show Kd.R k44 44 wr w.heap.size (fun _=>True) (.slice (some ⟨go11,0,none⟩) x3_1.length co28) x3_1 from (zR HO_3.out))));(try (obtain ⟨ce29,hcl29,hM29,hcc29,hfr29⟩:=Kd.R_elem HX29.out z44 (x4_1:Int) (of_decide_eq_true za) (by have h_:(x4_1:Int)<((x3_1.length:Int):Int):=of_decide_eq_true za;first|exact h_|(have e_:=(Kd.R_reads' HO_3.out).1;omega)|simpa using h_)));(try (obtain rfl:=k44_openM hM29));(try (have HP29:=Kd.R_seg HX29.out (x4_1:Int) (of_decide_eq_true za) (by have h_:(x4_1:Int)<((x3_1.length:Int):Int):=of_decide_eq_true za;first|exact h_|(have e_:=(Kd.R_reads' HO_3.out).1;omega)|simpa using h_) (seg:=[.int .i64 0]) (j:=2) hcl29 hcc29 (show 3≤4 from by decide) (x':=(⟨(rd_T44 x3_1 x4_1).f0,(rd_T44 x3_1 x4_1).f1,0,(rd_T44 x3_1 x4_1).f3⟩:S44)) (k44_mkM _ _ _ (⟨(rd_T44 x3_1 x4_1).f0,(rd_T44 x3_1 x4_1).f1,0,(rd_T44 x3_1 x4_1).f3⟩:S44)) (fun _ hk=>hk)));(try (have hx29_2:=hcc29 2 _ rfl));(try (try simp only [show (k44).sz=4 from rfl,Nat.mul_one,Nat.add_zero] at hx29_2));(try (have hf29_2:=hfr29 2));(try (try simp only [show (k44).sz=4 from rfl,Nat.mul_one,Nat.add_zero] at hf29_2));(try (clear hcl29 hcc29 hfr29;(try clear hM29)))));refine store_event (t:=3) (p:=19) (v:=?vo_w30) (w1:=(wr.setCell ⟨go11,(x4_1:Int).toNat * 4 + 2,none⟩ (.int .i64 0))) ?hg ?ho ?hn ?hr ?_;(case ho=>rfl);(case hg=>rfl);(case hn=>rfl);(case hr=>first|(go_simp;done)|(go_simp;rfl));intro w30 hw;have hg:wr.grownBy w30 (some go11):=(by rw [hw];exact HP29.2);have hp_:Kd.R k44 44 w30 w.heap.size (fun _=>True) (.slice (some ⟨go11,0,none⟩) x3_1.length co28) y230:=(by rw [hw,Ny230.out];exact HP29.1);clear HP29;have n0_:=Aside0.mk (hp_);have n1_:=Aside0.mk (IsS52.grown zz2 hg (IsS52.own_ne HI0.out HO_3.out (by decide)));have n2_:=Aside0.mk ((by rw [hw];exact below_set (HB.out) (Nat.le_trans HL.out GB11.out):Below w0.heap.size w0 w30));have n3_:=Aside0.mk (KeepBut.trans zz0 (KeepBut.of_grown hg g) (Kd.R_base2 HO_3.out));clear HO_3;clear HI0;clear HB;clear HK;have HO_3:=n0_;have HI0:=n1_;have HB:=n2_;have HK:=n3_;clear n0_ n1_ n2_ n3_;clear hg hw hp_)|(go_at_call 43;(with_reducible refine (spec_l1Cur_one.calls g s0_0 x1001_1 x1002_1 3 false t232 t233 w0 _ ?side1 ?side2 A13.out).mono ?_);(case side1=>exact zz2);(case side2=>exact zz3);rintro e w31 ⟨rfl,hi,hb,hk⟩;replace HO_3:=Aside0.mk (Kd.R_mono (Kd.R_keep (IsS52.apart (show IsS52 w0 _ g s0_0 x1001_1 x1002_1 from by repeat (first|(with_reducible first|exact HI0.out|apply IsS52.alloc|apply IsS52.drewN|apply IsS52.drew|apply IsS52.set_1|apply IsS52.set_2)|exact HI0.out)) (zR HO_3.out) (by decide)) hk (fun _ h=>h.2)) (fun _ h=>h.1));replace HK:=Aside0.mk (KeepBut.trans zz0 hk (.inl rfl));replace HB:=Aside0.mk (hb);replace HI0:=Aside0.mk (hi);(try clear hb);(try clear hk);(try clear hi)))
    go_roundg k1
    case measure=>have:=HK1.out;omega
    case rel=>exact ⟨(y230),(wrap64 (x4_1 + 1)),(t232),(t233),zo,H',⟨by have:=HK1.out;omega⟩,⟨zR HO_3.out⟩,⟨zz2⟩,⟨zz0⟩,⟨zz3⟩⟩
   subst c14
   rw [if_pos rfl] at H
   obtain ⟨ji15,hji15⟩:∃ j_:Int,(wrap64 (x4_1 - 1))=j_:=⟨_,rfl⟩
   replace H:(if 0≤(ji15) then (if (ji15)<(x3_1.length:Int) then ((some (y230.set (x4_1:Int).toNat (⟨(rd_T44 y230 (ji15)).f0,(rd_T44 y230 x4_1).f1,(rd_T44 y230 x4_1).f2,(rd_T44 y230 x4_1).f3⟩:S44):List (S44))).bind fun y235=>(spec_l1Cur_plain3.l0 k1 (y235.set (x4_1:Int).toNat (⟨(rd_T44 y235 x4_1).f0,(rd_T44 y235 (ji15)).f1,(rd_T44 y235 x4_1).f2,(rd_T44 y235 x4_1).f3⟩:S44)) (wrap64 (x4_1 + 1)) s0_0 t232 t233)) else (none)) else (none))=some (r1,r2,r3):=by first|(rw [hji15] at H;exact H)|(simp only [hji15] at H ⊢;exact H)
   (try rw [hji15] at A13)
   have hji15w:(IntKind.i64.wrap (x4_1 - 1))=ji15:=(i64_w _).trans hji15
   by_cases c16:0≤(ji15)
   rotate_left
   ·rw [if_neg c16] at H
    exact absurd H (by simp)
   rw [if_pos c16] at H
   have c16b0:=decide_eq_true c16
   clear c16
   by_cases c17:(ji15)<(x3_1.length:Int)
   rotate_left
   ·rw [if_neg c17] at H
    exact absurd H (by simp)
   rw [if_pos c17] at H
   have c17b0:=decide_eq_true c17
   clear c17
   obtain ⟨y235,hy235⟩:∃ y_:List (S44),y_=(y230.set (x4_1:Int).toNat (⟨(rd_T44 y230 (ji15)).f0,(rd_T44 y230 x4_1).f1,(rd_T44 y230 x4_1).f2,(rd_T44 y230 x4_1).f3⟩:S44)):=⟨_,rfl⟩
   replace H:(spec_l1Cur_plain3.l0 k1 (y235.set (x4_1:Int).toNat (⟨(rd_T44 y235 x4_1).f0,(rd_T44 y235 (ji15)).f1,(rd_T44 y235 x4_1).f2,(rd_T44 y235 x4_1).f3⟩:S44)) (wrap64 (x4_1 + 1)) s0_0 t232 t233)=some (r1,r2,r3):=by first|(rw [hy235];with_reducible exact H)|(have H2_:=(Option.bind_some _ _).symm.trans H;rw [hy235];with_reducible exact H2_)|(have H2_:=(Option.bind_some _ _).symm.trans H;with_reducible exact H2_)|with_reducible exact H|(rw [hy235];exact H)|exact H
   have Ny235:=Aside0.mk hy235
   clear hy235
   obtain ⟨y237,hy237⟩:∃ y_:List (S44),y_=(y235.set (x4_1:Int).toNat (⟨(rd_T44 y235 x4_1).f0,(rd_T44 y235 (ji15)).f1,(rd_T44 y235 x4_1).f2,(rd_T44 y235 x4_1).f3⟩:S44)):=⟨_,rfl⟩
   replace H:(spec_l1Cur_plain3.l0 k1 y237 (wrap64 (x4_1 + 1)) s0_0 t232 t233)=some (r1,r2,r3):=by first|(rw [hy237];with_reducible exact H)|(have H2_:=(Option.bind_some _ _).symm.trans H;rw [hy237];with_reducible exact H2_)|(have H2_:=(Option.bind_some _ _).symm.trans H;with_reducible exact H2_)|with_reducible exact H|(rw [hy237];exact H)|exact H
   have Ny237:=Aside0.mk hy237
   clear hy237
   have H':=Aside0.mk H
   clear H
   obtain ⟨Ao20,co20,eo20⟩:=Kd.R_slice HO_3.out
   subst eo20
   have p11:0≤(x4_1:Int):=of_decide_eq_true za
   have q11:(x4_1:Int)<((x3_1.length:Int):Int):=of_decide_eq_true za
   obtain ⟨go11,co11,eo11,gb11,gl11,cl11,HG11⟩:=Kd.R_form HO_3.out (by omega)
   (first|cases eo11|(injection eo11 with ea_ en_ ec_;(first|subst ea_|(injection ea_ with ea_;subst ea_));subst ec_;clear en_))
   have GB11:=Aside0.mk gb11
   have GG11:=Aside0.mk HG11
   clear gb11 gl11 HG11
   obtain ⟨ce11,hcl11,hM11,hcc11,hfr11⟩:=Kd.R_elem HO_3.out z44 (x4_1:Int) p11 q11
   obtain rfl:=k44_openM hM11
   have hx11_0:wr.cell? ⟨go11,(x4_1:Int).toNat * 4,none⟩=some (.int .i64 ((rd_T44 x3_1 x4_1).f0)):=hcc11 0 _ rfl
   have hx11_1:wr.cell? ⟨go11,(x4_1:Int).toNat * 4 + 1,none⟩=some (.int .i64 ((rd_T44 x3_1 x4_1).f1)):=hcc11 1 _ rfl
   have hx11_2:wr.cell? ⟨go11,(x4_1:Int).toNat * 4 + 2,none⟩=some (.int .i64 ((rd_T44 x3_1 x4_1).f2)):=hcc11 2 _ rfl
   have hx11_3:wr.cell? ⟨go11,(x4_1:Int).toNat * 4 + 3,none⟩=some (.int .i64 ((rd_T44 x3_1 x4_1).f3)):=hcc11 3 _ rfl
   have hf11_0:wr.frozen? ⟨go11,(x4_1:Int).toNat * 4,none⟩=false:=hfr11 0
   have hf11_1:wr.frozen? ⟨go11,(x4_1:Int).toNat * 4 + 1,none⟩=false:=hfr11 1
   have hf11_2:wr.frozen? ⟨go11,(x4_1:Int).toNat * 4 + 2,none⟩=false:=hfr11 2
   have hf11_3:wr.frozen? ⟨go11,(x4_1:Int).toNat * 4 + 3,none⟩=false:=hfr11 3
   (clear hcl11 hcc11 hfr11;(try clear hM11))
   replace p11:=eq_true p11
   replace q11:=eq_true q11
   have HX21:=Aside0.mk (show Kd.R k44 44 wr w.heap.size (fun _=>True) (.slice (some ⟨go11,0,none⟩) x3_1.length co20) x3_1 from (zR HO_3.out))
   obtain ⟨ce21,hcl21,hM21,hcc21,hfr21⟩:=Kd.R_elem HX21.out z44 (x4_1:Int) (of_decide_eq_true za) (by have h_:(x4_1:Int)<((x3_1.length:Int):Int):=of_decide_eq_true za;first|exact h_|(have e_:=(Kd.R_reads' HO_3.out).1;omega)|simpa using h_)
   obtain rfl:=k44_openM hM21
   have HP21:=Kd.R_seg HX21.out (x4_1:Int) (of_decide_eq_true za) (by have h_:(x4_1:Int)<((x3_1.length:Int):Int):=of_decide_eq_true za;first|exact h_|(have e_:=(Kd.R_reads' HO_3.out).1;omega)|simpa using h_) (seg:=[.int .i64 0]) (j:=2) hcl21 hcc21 (show 3≤4 from by decide) (x':=(⟨(rd_T44 x3_1 x4_1).f0,(rd_T44 x3_1 x4_1).f1,0,(rd_T44 x3_1 x4_1).f3⟩:S44)) (k44_mkM _ _ _ (⟨(rd_T44 x3_1 x4_1).f0,(rd_T44 x3_1 x4_1).f1,0,(rd_T44 x3_1 x4_1).f3⟩:S44)) (fun _ hk=>hk)
   have hx21_2:=hcc21 2 _ rfl
   (try simp only [show (k44).sz=4 from rfl,Nat.mul_one,Nat.add_zero] at hx21_2)
   have hf21_2:=hfr21 2
   (try simp only [show (k44).sz=4 from rfl,Nat.mul_one,Nat.add_zero] at hf21_2)
   (clear hcl21 hcc21 hfr21;(try clear hM21))
   go_wp2_with (first|((with_reducible refine gate_store (t:=3) (p:=19) rfl ?_);(try (rw [drewN_self wr];generalize hq_:World.drewN wr _=wr;have n0_:=Aside0.mk (Kd.R_at hq_ HO_3.out);have n1_:=Aside0.mk (IsS52.at_ hq_ HI0.out);have n2_:=Aside0.mk (keep_at hq_ HK.out);have n3_:=Aside0.mk (below_at hq_ HB.out);(try replace hx11_0:=cell_at hq_ hx11_0);(try replace hx11_1:=cell_at hq_ hx11_1);(try replace hx11_2:=cell_at hq_ hx11_2);(try replace hx11_3:=cell_at hq_ hx11_3);(try replace hf11_0:=(fun {W_ W2_:World} {n_:Nat} {a_:Addr} {b_:Bool} (h_:W_.drewN n_=W2_) (e_:W_.frozen? a_=b_)=>(by subst h_;exact e_:W2_.frozen? a_=b_)) hq_ hf11_0);(try replace hf11_1:=(fun {W_ W2_:World} {n_:Nat} {a_:Addr} {b_:Bool} (h_:W_.drewN n_=W2_) (e_:W_.frozen? a_=b_)=>(by subst h_;exact e_:W2_.frozen? a_=b_)) hq_ hf11_1);(try replace hf11_2:=(fun {W_ W2_:World} {n_:Nat} {a_:Addr} {b_:Bool} (h_:W_.drewN n_=W2_) (e_:W_.frozen? a_=b_)=>(by subst h_;exact e_:W2_.frozen? a_=b_)) hq_ hf11_2);(try replace hf11_3:=(fun {W_ W2_:World} {n_:Nat} {a_:Addr} {b_:Bool} (h_:W_.drewN n_=W2_) (e_:W_.frozen? a_=b_)=>(by subst h_;exact e_:W2_.frozen? a_=b_)) hq_ hf11_3);(try replace hx21_2:=cell_at hq_ hx21_2);(try replace hf21_2:=(fun {W_ W2_:World} {n_:Nat} {a_:Addr} {b_:Bool} (h_:W_.drewN n_=W2_) (e_:W_.frozen? a_=b_)=>(by subst h_;exact e_:W2_.frozen? a_=b_)) hq_ hf21_2);clear hq_ HO_3 HI0 HK HB;have HO_3:=n0_;have HI0:=n1_;have HK:=n2_;have HB:=n3_;clear n0_ n1_ n2_ n3_;(try (have HX21:=Aside0.mk (show Kd.R k44 44 wr w.heap.size (fun _=>True) (.slice (some ⟨go11,0,none⟩) x3_1.length co20) x3_1 from (zR HO_3.out))));(try (obtain ⟨ce21,hcl21,hM21,hcc21,hfr21⟩:=Kd.R_elem HX21.out z44 (x4_1:Int) (of_decide_eq_true za) (by have h_:(x4_1:Int)<((x3_1.length:Int):Int):=of_decide_eq_true za;first|exact h_|(have e_:=(Kd.R_reads' HO_3.out).1;omega)|simpa using h_)));(try (obtain rfl:=k44_openM hM21));(try (have HP21:=Kd.R_seg HX21.out (x4_1:Int) (of_decide_eq_true za) (by have h_:(x4_1:Int)<((x3_1.length:Int):Int):=of_decide_eq_true za;first|exact h_|(have e_:=(Kd.R_reads' HO_3.out).1;omega)|simpa using h_) (seg:=[.int .i64 0]) (j:=2) hcl21 hcc21 (show 3≤4 from by decide) (x':=(⟨(rd_T44 x3_1 x4_1).f0,(rd_T44 x3_1 x4_1).f1,0,(rd_T44 x3_1 x4_1).f3⟩:S44)) (k44_mkM _ _ _ (⟨(rd_T44 x3_1 x4_1).f0,(rd_T44 x3_1 x4_1).f1,0,(rd_T44 x3_1 x4_1).f3⟩:S44)) (fun _ hk=>hk)));(try (have hx21_2:=hcc21 2 _ rfl));(try (try simp only [show (k44).sz=4 from rfl,Nat.mul_one,Nat.add_zero] at hx21_2));(try (have hf21_2:=hfr21 2));(try (try simp only [show (k44).sz=4 from rfl,Nat.mul_one,Nat.add_zero] at hf21_2));(try (clear hcl21 hcc21 hfr21;(try clear hM21)))));refine store_event (t:=3) (p:=19) (v:=?vo_w22) (w1:=(wr.setCell ⟨go11,(x4_1:Int).toNat * 4 + 2,none⟩ (.int .i64 0))) ?hg ?ho ?hn ?hr ?_;(case ho=>rfl);(case hg=>rfl);(case hn=>rfl);(case hr=>first|(go_simp;done)|(go_simp;rfl));intro w22 hw;have hg:wr.grownBy w22 (some go11):=(by rw [hw];exact HP21.2);have hp_:Kd.R k44 44 w22 w.heap.size (fun _=>True) (.slice (some ⟨go11,0,none⟩) x3_1.length co20) y230:=(by rw [hw,Ny230.out];exact HP21.1);clear HP21;have n0_:=Aside0.mk (hp_);have n1_:=Aside0.mk (IsS52.grown zz2 hg (IsS52.own_ne HI0.out HO_3.out (by decide)));have n2_:=Aside0.mk ((by rw [hw];exact below_set (HB.out) (Nat.le_trans HL.out GB11.out):Below w0.heap.size w0 w22));have n3_:=Aside0.mk (KeepBut.trans zz0 (KeepBut.of_grown hg g) (Kd.R_base2 HO_3.out));clear HO_3;clear HI0;clear HB;clear HK;have HO_3:=n0_;have HI0:=n1_;have HB:=n2_;have HK:=n3_;clear n0_ n1_ n2_ n3_;clear hg hw hp_)|(go_at_call 43;(with_reducible refine (spec_l1Cur_one.calls g s0_0 x1001_1 x1002_1 3 true t232 t233 w0 _ ?side1 ?side2 A13.out).mono ?_);(case side1=>exact zz2);(case side2=>exact zz3);rintro e w23 ⟨rfl,hi,hb,hk⟩;replace HO_3:=Aside0.mk (Kd.R_mono (Kd.R_keep (IsS52.apart (show IsS52 w0 _ g s0_0 x1001_1 x1002_1 from by repeat (first|(with_reducible first|exact HI0.out|apply IsS52.alloc|apply IsS52.drewN|apply IsS52.drew|apply IsS52.set_1|apply IsS52.set_2)|exact HI0.out)) (zR HO_3.out) (by decide)) hk (fun _ h=>h.2)) (fun _ h=>h.1));replace HK:=Aside0.mk (KeepBut.trans zz0 hk (.inl rfl));replace HB:=Aside0.mk (hb);replace HI0:=Aside0.mk (hi);(try clear hb);(try clear hk);(try clear hi);have p234:0≤((ji15):Int):=of_decide_eq_true za;have q234:(ji15)<(y230.length:Int):=(by have h_:((ji15):Int)<((x3_1.length:Int):Int):=of_decide_eq_true za;first|(have e_:=(Kd.R_reads' HO_3.out).1;omega)|simpa only [Ny230.out,List.length_set] using h_);have ql234:(((ji15):Int)<((x3_1.length:Int):Int))=True:=eq_true (of_decide_eq_true za);obtain ⟨ad234,e234,hx234_0,hx234_1,hx234_2,hx234_3⟩:=at_T44 (Kd.R_reads' HO_3.out).2.2 (ji15) p234 q234;obtain rfl:(⟨go11,0,none⟩:Addr)=ad234:=(by injection e234);(first|simp only [add_plain] at hx234_0|simp only [add_at] at hx234_0|simp only [Addr.add,Nat.zero_add] at hx234_0|skip);(first|simp only [add_plain] at hx234_1|simp only [add_at] at hx234_1|simp only [Addr.add,Nat.zero_add] at hx234_1|skip);(first|simp only [add_plain] at hx234_2|simp only [add_at] at hx234_2|simp only [Addr.add,Nat.zero_add] at hx234_2|skip);(first|simp only [add_plain] at hx234_3|simp only [add_at] at hx234_3|simp only [Addr.add,Nat.zero_add] at hx234_3|skip);replace p234:=eq_true p234;replace q234:=eq_true q234;have p18:0≤(x4_1:Int):=of_decide_eq_true za;have q18:(x4_1:Int)<((x3_1.length:Int):Int):=of_decide_eq_true za;obtain ⟨ce18,hcl18,hM18,hcc18,hfr18⟩:=Kd.R_elem HO_3.out z44 (x4_1:Int) p18 q18;obtain rfl:=k44_openM hM18;have hx18_0:w23.cell? ⟨go11,(x4_1:Int).toNat * 4,none⟩=some (.int .i64 ((rd_T44 y230 x4_1).f0)):=hcc18 0 _ rfl;have hx18_1:w23.cell? ⟨go11,(x4_1:Int).toNat * 4 + 1,none⟩=some (.int .i64 ((rd_T44 y230 x4_1).f1)):=hcc18 1 _ rfl;have hx18_2:w23.cell? ⟨go11,(x4_1:Int).toNat * 4 + 2,none⟩=some (.int .i64 ((rd_T44 y230 x4_1).f2)):=hcc18 2 _ rfl;have hx18_3:w23.cell? ⟨go11,(x4_1:Int).toNat * 4 + 3,none⟩=some (.int .i64 ((rd_T44 y230 x4_1).f3)):=hcc18 3 _ rfl;have hf18_0:w23.frozen? ⟨go11,(x4_1:Int).toNat * 4,none⟩=false:=hfr18 0;have hf18_1:w23.frozen? ⟨go11,(x4_1:Int).toNat * 4 + 1,none⟩=false:=hfr18 1;have hf18_2:w23.frozen? ⟨go11,(x4_1:Int).toNat * 4 + 2,none⟩=false:=hfr18 2;have hf18_3:w23.frozen? ⟨go11,(x4_1:Int).toNat * 4 + 3,none⟩=false:=hfr18 3;(clear hcl18 hcc18 hfr18;(try clear hM18));replace p18:=eq_true p18;replace q18:=eq_true q18;have HX24:=Aside0.mk (show Kd.R k44 44 w23 w.heap.size (fun _=>True) (.slice (some ⟨go11,0,none⟩) x3_1.length co20) y230 from (zR HO_3.out));obtain ⟨ce24,hcl24,hM24,hcc24,hfr24⟩:=Kd.R_elem HX24.out z44 (x4_1:Int) (of_decide_eq_true za) (by have h_:(x4_1:Int)<((x3_1.length:Int):Int):=of_decide_eq_true za;first|exact h_|(have e_:=(Kd.R_reads' HO_3.out).1;omega)|simpa using h_);obtain rfl:=k44_openM hM24;have HP24:=Kd.R_seg HX24.out (x4_1:Int) (of_decide_eq_true za) (by have h_:(x4_1:Int)<((x3_1.length:Int):Int):=of_decide_eq_true za;first|exact h_|(have e_:=(Kd.R_reads' HO_3.out).1;omega)|simpa using h_) (seg:=[.int .i64 ((rd_T44 y230 (ji15)).f0)]) (j:=0) hcl24 hcc24 (show 1≤4 from by decide) (x':=(⟨(rd_T44 y230 (ji15)).f0,(rd_T44 y230 x4_1).f1,(rd_T44 y230 x4_1).f2,(rd_T44 y230 x4_1).f3⟩:S44)) (k44_mkM _ _ _ (⟨(rd_T44 y230 (ji15)).f0,(rd_T44 y230 x4_1).f1,(rd_T44 y230 x4_1).f2,(rd_T44 y230 x4_1).f3⟩:S44)) (fun _ hk=>hk);have hx24_0:=hcc24 0 _ rfl;(try simp only [show (k44).sz=4 from rfl,Nat.mul_one,Nat.add_zero] at hx24_0);have hf24_0:=hfr24 0;(try simp only [show (k44).sz=4 from rfl,Nat.mul_one,Nat.add_zero] at hf24_0);(clear hcl24 hcc24 hfr24;(try clear hM24)))|((with_reducible refine gate_store (t:=3) (p:=35) rfl ?_);(try (rw [drewN_self w23];generalize hq_:World.drewN w23 _=w23;have n0_:=Aside0.mk (Kd.R_at hq_ HO_3.out);have n1_:=Aside0.mk (IsS52.at_ hq_ HI0.out);have n2_:=Aside0.mk (keep_at hq_ HK.out);have n3_:=Aside0.mk (below_at hq_ HB.out);(try replace hx18_0:=cell_at hq_ hx18_0);(try replace hx18_1:=cell_at hq_ hx18_1);(try replace hx18_2:=cell_at hq_ hx18_2);(try replace hx18_3:=cell_at hq_ hx18_3);(try replace hf18_0:=(fun {W_ W2_:World} {n_:Nat} {a_:Addr} {b_:Bool} (h_:W_.drewN n_=W2_) (e_:W_.frozen? a_=b_)=>(by subst h_;exact e_:W2_.frozen? a_=b_)) hq_ hf18_0);(try replace hf18_1:=(fun {W_ W2_:World} {n_:Nat} {a_:Addr} {b_:Bool} (h_:W_.drewN n_=W2_) (e_:W_.frozen? a_=b_)=>(by subst h_;exact e_:W2_.frozen? a_=b_)) hq_ hf18_1);(try replace hf18_2:=(fun {W_ W2_:World} {n_:Nat} {a_:Addr} {b_:Bool} (h_:W_.drewN n_=W2_) (e_:W_.frozen? a_=b_)=>(by subst h_;exact e_:W2_.frozen? a_=b_)) hq_ hf18_2);(try replace hf18_3:=(fun {W_ W2_:World} {n_:Nat} {a_:Addr} {b_:Bool} (h_:W_.drewN n_=W2_) (e_:W_.frozen? a_=b_)=>(by subst h_;exact e_:W2_.frozen? a_=b_)) hq_ hf18_3);(try replace hx24_0:=cell_at hq_ hx24_0);(try replace hf24_0:=(fun {W_ W2_:World} {n_:Nat} {a_:Addr} {b_:Bool} (h_:W_.drewN n_=W2_) (e_:W_.frozen? a_=b_)=>(by subst h_;exact e_:W2_.frozen? a_=b_)) hq_ hf24_0);clear hq_ HO_3 HI0 HK HB;have HO_3:=n0_;have HI0:=n1_;have HK:=n2_;have HB:=n3_;clear n0_ n1_ n2_ n3_;(try (have HX24:=Aside0.mk (show Kd.R k44 44 w23 w.heap.size (fun _=>True) (.slice (some ⟨go11,0,none⟩) x3_1.length co20) y230 from (zR HO_3.out))));(try (obtain ⟨ce24,hcl24,hM24,hcc24,hfr24⟩:=Kd.R_elem HX24.out z44 (x4_1:Int) (of_decide_eq_true za) (by have h_:(x4_1:Int)<((x3_1.length:Int):Int):=of_decide_eq_true za;first|exact h_|(have e_:=(Kd.R_reads' HO_3.out).1;omega)|simpa using h_)));(try (obtain rfl:=k44_openM hM24));(try (have HP24:=Kd.R_seg HX24.out (x4_1:Int) (of_decide_eq_true za) (by have h_:(x4_1:Int)<((x3_1.length:Int):Int):=of_decide_eq_true za;first|exact h_|(have e_:=(Kd.R_reads' HO_3.out).1;omega)|simpa using h_) (seg:=[.int .i64 ((rd_T44 y230 (ji15)).f0)]) (j:=0) hcl24 hcc24 (show 1≤4 from by decide) (x':=(⟨(rd_T44 y230 (ji15)).f0,(rd_T44 y230 x4_1).f1,(rd_T44 y230 x4_1).f2,(rd_T44 y230 x4_1).f3⟩:S44)) (k44_mkM _ _ _ (⟨(rd_T44 y230 (ji15)).f0,(rd_T44 y230 x4_1).f1,(rd_T44 y230 x4_1).f2,(rd_T44 y230 x4_1).f3⟩:S44)) (fun _ hk=>hk)));(try (have hx24_0:=hcc24 0 _ rfl));(try (try simp only [show (k44).sz=4 from rfl,Nat.mul_one,Nat.add_zero] at hx24_0));(try (have hf24_0:=hfr24 0));(try (try simp only [show (k44).sz=4 from rfl,Nat.mul_one,Nat.add_zero] at hf24_0));(try (clear hcl24 hcc24 hfr24;(try clear hM24)))));refine store_event (t:=3) (p:=35) (v:=?vo_w25) (w1:=(w23.setCell ⟨go11,(x4_1:Int).toNat * 4,none⟩ (.int .i64 ((rd_T44 y230 (ji15)).f0)))) ?hg ?ho ?hn ?hr ?_;(case ho=>rfl);(case hg=>rfl);(case hn=>rfl);(case hr=>first|(go_simp;done)|(go_simp;rfl));intro w25 hw;have hg:w23.grownBy w25 (some go11):=(by rw [hw];exact HP24.2);have hp_:Kd.R k44 44 w25 w.heap.size (fun _=>True) (.slice (some ⟨go11,0,none⟩) x3_1.length co20) y235:=(by rw [hw,Ny235.out];exact HP24.1);clear HP24;have n0_:=Aside0.mk (hp_);have n1_:=Aside0.mk (IsS52.grown zz2 hg (IsS52.own_ne HI0.out HO_3.out (by decide)));have n2_:=Aside0.mk ((by rw [hw];exact below_set (HB.out) (Nat.le_trans HL.out GB11.out):Below w0.heap.size w0 w25));have n3_:=Aside0.mk (KeepBut.trans zz0 (KeepBut.of_grown hg g) (Kd.R_base2 HO_3.out));clear HO_3;clear HI0;clear HB;clear HK;have HO_3:=n0_;have HI0:=n1_;have HB:=n2_;have HK:=n3_;clear n0_ n1_ n2_ n3_;clear hg hw hp_;have p236:0≤((ji15):Int):=of_decide_eq_true za;have q236:(ji15)<(y235.length:Int):=(by have h_:((ji15):Int)<((x3_1.length:Int):Int):=of_decide_eq_true za;first|(have e_:=(Kd.R_reads' HO_3.out).1;omega)|simpa only [Ny230.out,Ny235.out,List.length_set] using h_);have ql236:(((ji15):Int)<((x3_1.length:Int):Int))=True:=eq_true (of_decide_eq_true za);obtain ⟨ad236,e236,hx236_0,hx236_1,hx236_2,hx236_3⟩:=at_T44 (Kd.R_reads' HO_3.out).2.2 (ji15) p236 q236;obtain rfl:(⟨go11,0,none⟩:Addr)=ad236:=(by injection e236);(first|simp only [add_plain] at hx236_0|simp only [add_at] at hx236_0|simp only [Addr.add,Nat.zero_add] at hx236_0|skip);(first|simp only [add_plain] at hx236_1|simp only [add_at] at hx236_1|simp only [Addr.add,Nat.zero_add] at hx236_1|skip);(first|simp only [add_plain] at hx236_2|simp only [add_at] at hx236_2|simp only [Addr.add,Nat.zero_add] at hx236_2|skip);(first|simp only [add_plain] at hx236_3|simp only [add_at] at hx236_3|simp only [Addr.add,Nat.zero_add] at hx236_3|skip);replace p236:=eq_true p236;replace q236:=eq_true q236;have p19:0≤(x4_1:Int):=of_decide_eq_true za;have q19:(x4_1:Int)<((x3_1.length:Int):Int):=of_decide_eq_true za;obtain ⟨ce19,hcl19,hM19,hcc19,hfr19⟩:=Kd.R_elem HO_3.out z44 (x4_1:Int) p19 q19;obtain rfl:=k44_openM hM19;have hx19_0:w25.cell? ⟨go11,(x4_1:Int).toNat * 4,none⟩=some (.int .i64 ((rd_T44 y235 x4_1).f0)):=hcc19 0 _ rfl;have hx19_1:w25.cell? ⟨go11,(x4_1:Int).toNat * 4 + 1,none⟩=some (.int .i64 ((rd_T44 y235 x4_1).f1)):=hcc19 1 _ rfl;have hx19_2:w25.cell? ⟨go11,(x4_1:Int).toNat * 4 + 2,none⟩=some (.int .i64 ((rd_T44 y235 x4_1).f2)):=hcc19 2 _ rfl;have hx19_3:w25.cell? ⟨go11,(x4_1:Int).toNat * 4 + 3,none⟩=some (.int .i64 ((rd_T44 y235 x4_1).f3)):=hcc19 3 _ rfl;have hf19_0:w25.frozen? ⟨go11,(x4_1:Int).toNat * 4,none⟩=false:=hfr19 0;have hf19_1:w25.frozen? ⟨go11,(x4_1:Int).toNat * 4 + 1,none⟩=false:=hfr19 1;have hf19_2:w25.frozen? ⟨go11,(x4_1:Int).toNat * 4 + 2,none⟩=false:=hfr19 2;have hf19_3:w25.frozen? ⟨go11,(x4_1:Int).toNat * 4 + 3,none⟩=false:=hfr19 3;(clear hcl19 hcc19 hfr19;(try clear hM19));replace p19:=eq_true p19;replace q19:=eq_true q19;have HX26:=Aside0.mk (show Kd.R k44 44 w25 w.heap.size (fun _=>True) (.slice (some ⟨go11,0,none⟩) x3_1.length co20) y235 from (zR HO_3.out));obtain ⟨ce26,hcl26,hM26,hcc26,hfr26⟩:=Kd.R_elem HX26.out z44 (x4_1:Int) (of_decide_eq_true za) (by have h_:(x4_1:Int)<((x3_1.length:Int):Int):=of_decide_eq_true za;first|exact h_|(have e_:=(Kd.R_reads' HO_3.out).1;omega)|simpa using h_);obtain rfl:=k44_openM hM26;have HP26:=Kd.R_seg HX26.out (x4_1:Int) (of_decide_eq_true za) (by have h_:(x4_1:Int)<((x3_1.length:Int):Int):=of_decide_eq_true za;first|exact h_|(have e_:=(Kd.R_reads' HO_3.out).1;omega)|simpa using h_) (seg:=[.int .i64 ((rd_T44 y235 (ji15)).f1)]) (j:=1) hcl26 hcc26 (show 2≤4 from by decide) (x':=(⟨(rd_T44 y235 x4_1).f0,(rd_T44 y235 (ji15)).f1,(rd_T44 y235 x4_1).f2,(rd_T44 y235 x4_1).f3⟩:S44)) (k44_mkM _ _ _ (⟨(rd_T44 y235 x4_1).f0,(rd_T44 y235 (ji15)).f1,(rd_T44 y235 x4_1).f2,(rd_T44 y235 x4_1).f3⟩:S44)) (fun _ hk=>hk);have hx26_1:=hcc26 1 _ rfl;(try simp only [show (k44).sz=4 from rfl,Nat.mul_one,Nat.add_zero] at hx26_1);have hf26_1:=hfr26 1;(try simp only [show (k44).sz=4 from rfl,Nat.mul_one,Nat.add_zero] at hf26_1);(clear hcl26 hcc26 hfr26;(try clear hM26)))|((with_reducible refine gate_store (t:=3) (p:=45) rfl ?_);(try (rw [drewN_self w25];generalize hq_:World.drewN w25 _=w25;have n0_:=Aside0.mk (Kd.R_at hq_ HO_3.out);have n1_:=Aside0.mk (IsS52.at_ hq_ HI0.out);have n2_:=Aside0.mk (keep_at hq_ HK.out);have n3_:=Aside0.mk (below_at hq_ HB.out);(try replace hx19_0:=cell_at hq_ hx19_0);(try replace hx19_1:=cell_at hq_ hx19_1);(try replace hx19_2:=cell_at hq_ hx19_2);(try replace hx19_3:=cell_at hq_ hx19_3);(try replace hf19_0:=(fun {W_ W2_:World} {n_:Nat} {a_:Addr} {b_:Bool} (h_:W_.drewN n_=W2_) (e_:W_.frozen? a_=b_)=>(by subst h_;exact e_:W2_.frozen? a_=b_)) hq_ hf19_0);(try replace hf19_1:=(fun {W_ W2_:World} {n_:Nat} {a_:Addr} {b_:Bool} (h_:W_.drewN n_=W2_) (e_:W_.frozen? a_=b_)=>(by subst h_;exact e_:W2_.frozen? a_=b_)) hq_ hf19_1);(try replace hf19_2:=(fun {W_ W2_:World} {n_:Nat} {a_:Addr} {b_:Bool} (h_:W_.drewN n_=W2_) (e_:W_.frozen? a_=b_)=>(by subst h_;exact e_:W2_.frozen? a_=b_)) hq_ hf19_2);(try replace hf19_3:=(fun {W_ W2_:World} {n_:Nat} {a_:Addr} {b_:Bool} (h_:W_.drewN n_=W2_) (e_:W_.frozen? a_=b_)=>(by subst h_;exact e_:W2_.frozen? a_=b_)) hq_ hf19_3);(try replace hx26_1:=cell_at hq_ hx26_1);(try replace hf26_1:=(fun {W_ W2_:World} {n_:Nat} {a_:Addr} {b_:Bool} (h_:W_.drewN n_=W2_) (e_:W_.frozen? a_=b_)=>(by subst h_;exact e_:W2_.frozen? a_=b_)) hq_ hf26_1);clear hq_ HO_3 HI0 HK HB;have HO_3:=n0_;have HI0:=n1_;have HK:=n2_;have HB:=n3_;clear n0_ n1_ n2_ n3_;(try (have HX26:=Aside0.mk (show Kd.R k44 44 w25 w.heap.size (fun _=>True) (.slice (some ⟨go11,0,none⟩) x3_1.length co20) y235 from (zR HO_3.out))));(try (obtain ⟨ce26,hcl26,hM26,hcc26,hfr26⟩:=Kd.R_elem HX26.out z44 (x4_1:Int) (of_decide_eq_true za) (by have h_:(x4_1:Int)<((x3_1.length:Int):Int):=of_decide_eq_true za;first|exact h_|(have e_:=(Kd.R_reads' HO_3.out).1;omega)|simpa using h_)));(try (obtain rfl:=k44_openM hM26));(try (have HP26:=Kd.R_seg HX26.out (x4_1:Int) (of_decide_eq_true za) (by have h_:(x4_1:Int)<((x3_1.length:Int):Int):=of_decide_eq_true za;first|exact h_|(have e_:=(Kd.R_reads' HO_3.out).1;omega)|simpa using h_) (seg:=[.int .i64 ((rd_T44 y235 (ji15)).f1)]) (j:=1) hcl26 hcc26 (show 2≤4 from by decide) (x':=(⟨(rd_T44 y235 x4_1).f0,(rd_T44 y235 (ji15)).f1,(rd_T44 y235 x4_1).f2,(rd_T44 y235 x4_1).f3⟩:S44)) (k44_mkM _ _ _ (⟨(rd_T44 y235 x4_1).f0,(rd_T44 y235 (ji15)).f1,(rd_T44 y235 x4_1).f2,(rd_T44 y235 x4_1).f3⟩:S44)) (fun _ hk=>hk)));(try (have hx26_1:=hcc26 1 _ rfl));(try (try simp only [show (k44).sz=4 from rfl,Nat.mul_one,Nat.add_zero] at hx26_1));(try (have hf26_1:=hfr26 1));(try (try simp only [show (k44).sz=4 from rfl,Nat.mul_one,Nat.add_zero] at hf26_1));(try (clear hcl26 hcc26 hfr26;(try clear hM26)))));refine store_event (t:=3) (p:=45) (v:=?vo_w27) (w1:=(w25.setCell ⟨go11,(x4_1:Int).toNat * 4 + 1,none⟩ (.int .i64 ((rd_T44 y235 (ji15)).f1)))) ?hg ?ho ?hn ?hr ?_;(case ho=>rfl);(case hg=>rfl);(case hn=>rfl);(case hr=>first|(go_simp;done)|(go_simp;rfl));intro w27 hw;have hg:w25.grownBy w27 (some go11):=(by rw [hw];exact HP26.2);have hp_:Kd.R k44 44 w27 w.heap.size (fun _=>True) (.slice (some ⟨go11,0,none⟩) x3_1.length co20) y237:=(by rw [hw,Ny237.out];exact HP26.1);clear HP26;have n0_:=Aside0.mk (hp_);have n1_:=Aside0.mk (IsS52.grown zz2 hg (IsS52.own_ne HI0.out HO_3.out (by decide)));have n2_:=Aside0.mk ((by rw [hw];exact below_set (HB.out) (Nat.le_trans HL.out GB11.out):Below w0.heap.size w0 w27));have n3_:=Aside0.mk (KeepBut.trans zz0 (KeepBut.of_grown hg g) (Kd.R_base2 HO_3.out));clear HO_3;clear HI0;clear HB;clear HK;have HO_3:=n0_;have HI0:=n1_;have HB:=n2_;have HK:=n3_;clear n0_ n1_ n2_ n3_;clear hg hw hp_))
   go_roundg k1
   case measure=>have:=HK1.out;omega
   case rel=>exact ⟨(y237),(wrap64 (x4_1 + 1)),(t232),(t233),zo,H',⟨by have:=HK1.out;omega⟩,⟨zR HO_3.out⟩,⟨zz2⟩,⟨zz0⟩,⟨zz3⟩⟩

/-! ### spec_l1Cur_ruled3: function 26 -/
def spec_l1Cur_ruled3.j0:Nat→Int→List Int→Int→Int→Option ((List (S44)) × Int × Int × Int)
 | 0,_,_,_,_=>none
 | k + 1,x4,x1000,x1001,x1002=>if x4=1 then ((spec_l1Cur_jobs.f k x1000 x1001 x1002).bind fun bt250=>(some (bt250.1,x4,bt250.2.1,bt250.2.2))) else ((spec_l1Cur_plain3.f k x1000 x1001 x1002).bind fun bt255=>(some (bt255.1,x4,bt255.2.1,bt255.2.2)))
def spec_l1Cur_ruled3.f (k:Nat) (s0_0:List Int) (s0_1:Int) (s0_2:Int):Option ((List (S44)) × Int × Int × Int):=(spec_l1Cur_pick.f s0_0 s0_1 s0_2 4).bind fun bt238=>((spec_l1Cur_one.f s0_0 bt238.2.1 bt238.2.2 24).bind fun bt241=>(if bt241.1=true then ((spec_l1Cur_among.f s0_0 bt241.2.1 bt241.2.2 (([0,5,8,(-1)]:List Int))).bind fun bt247=>(spec_l1Cur_ruled3.j0 k bt247.1 s0_0 bt247.2.1 bt247.2.2)) else (spec_l1Cur_ruled3.j0 k (wrap64 (1 + bt238.1)) s0_0 bt241.2.1 bt241.2.2)))
theorem spec_l1Cur_ruled3.mono_l:∀ k,(∀ y0 y1 y2 y3,LeO (spec_l1Cur_ruled3.j0 k y0 y1 y2 y3) (spec_l1Cur_ruled3.j0 (k + 1) y0 y1 y2 y3))
 | 0=>fun _ _ _ _ r h=>by simp [spec_l1Cur_ruled3.j0] at h
 | k + 1=>by
  have ih0:=spec_l1Cur_ruled3.mono_l k
  ·intro y0 y1 y2 y3
   unfold spec_l1Cur_ruled3.j0
   repeat' first|(with_reducible first|apply ih0|exact spec_l1Cur_jobs.mono _ _ _ _|exact spec_l1Cur_plain3.mono _ _ _ _|exact LeO.refl _|exact LeO.none _|refine LeO.ite ?_ ?_|refine LeO.bind ?_ (fun _=>?_))|apply ih0|exact spec_l1Cur_jobs.mono _ _ _ _|exact spec_l1Cur_plain3.mono _ _ _ _|exact LeO.none _|refine LeO.ite ?_ ?_|refine LeO.bind ?_ (fun _=>?_)
theorem spec_l1Cur_ruled3.mono:∀ a0 a1 a2 k,LeO (spec_l1Cur_ruled3.f k a0 a1 a2) (spec_l1Cur_ruled3.f (k + 1) a0 a1 a2):=by
 intro a0 a1 a2 k
 have ih0:=spec_l1Cur_ruled3.mono_l k
 unfold spec_l1Cur_ruled3.f
 repeat' first|(with_reducible first|apply ih0|exact spec_l1Cur_jobs.mono _ _ _ _|exact spec_l1Cur_plain3.mono _ _ _ _|exact LeO.refl _|exact LeO.none _|refine LeO.ite ?_ ?_|refine LeO.bind ?_ (fun _=>?_))|apply ih0|exact spec_l1Cur_jobs.mono _ _ _ _|exact spec_l1Cur_plain3.mono _ _ _ _|exact LeO.none _|refine LeO.ite ?_ ?_|refine LeO.bind ?_ (fun _=>?_)
set_option maxHeartbeats 8000000 in
set_option maxRecDepth 100000 in
theorem spec_l1Cur_ruled3.calls (k:Nat) (g:Nat) (s0_0:List Int) (s0_1:Int) (s0_2:Int) (r1:List (S44)) (r2:Int) (r3:Int) (r4:Int) (w0 w:World) (hI:IsS52 w0 w g s0_0 s0_1 s0_2) (hB:Below w0.heap.size w0 w) (h:spec_l1Cur_ruled3.f k s0_0 s0_1 s0_2=some (r1,r2,r3,r4)) :
  Calls Try.prog 26 #[.pointer (some ⟨g,0,none⟩)] w fun e w'=>∃ v0_:Value,e=.returned (.tuple #[v0_,.int .i64 r2])∧Kd.R k44 44 w' w.heap.size (fun _=>True) v0_ r1∧IsS52 w0 w' g s0_0 r3 r4∧Below w0.heap.size w0 w'∧KeepBut w w' g none:=by
 have HI0:=Aside0.mk hI
 have HK:=Aside0.mk (KeepBut.refl w g none)
 have HL:=Aside0.mk hB.size
 clear hI
 have HW0:=Aside0.mk hB.size
 have HB:=Aside0.mk hB
 clear hB
 have H:((spec_l1Cur_pick.f s0_0 s0_1 s0_2 4).bind fun bt238=>((spec_l1Cur_one.f s0_0 bt238.2.1 bt238.2.2 24).bind fun bt241=>(if bt241.1=true then ((spec_l1Cur_among.f s0_0 bt241.2.1 bt241.2.2 (([0,5,8,(-1)]:List Int))).bind fun bt247=>(spec_l1Cur_ruled3.j0 k bt247.1 s0_0 bt247.2.1 bt247.2.2)) else (spec_l1Cur_ruled3.j0 k (wrap64 (1 + bt238.1)) s0_0 bt241.2.1 bt241.2.2))))=some (r1,r2,r3,r4):=h
 clear h
 replace H:=Option.bind_eq_some_iff.mp H
 obtain ⟨⟨t238,t239,t240⟩,A20,H⟩:=H
 try dsimp only at H
 have A2:=Aside0.mk A20
 clear A20
 replace H:=Option.bind_eq_some_iff.mp H
 obtain ⟨⟨t241,t242,t243⟩,A30,H⟩:=H
 try dsimp only at H
 have A3:=Aside0.mk A30
 clear A30
 have HC4:=Aside0.mk H
 clear H
 go_enter Try.func26,Try.ntmps26
 go_upto_if 9 with (first|((with_reducible refine gate_callee (f:=42) rfl ?_);refine zgo 6 Try.func42 #[.pointer (some ⟨g,0,none⟩),.int .i64 4] ?_;(with_reducible refine (spec_l1Cur_pick.calls g s0_0 s0_1 s0_2 4 t238 t239 t240 w0 _ ?side1 ?side2 A2.out).mono ?_);(case side1=>exact zz2);(case side2=>exact zz3);rintro e w5 ⟨rfl,hi,hb,hk⟩;refine ⟨_,rfl,?_⟩;replace HK:=Aside0.mk (KeepBut.trans zz0 hk (.inl rfl));replace HB:=Aside0.mk (hb);replace HI0:=Aside0.mk (hi);(try clear hb);(try clear hk);(try clear hi))|((with_reducible refine gate_callee (f:=43) rfl ?_);refine zgo 9 Try.func43 #[.pointer (some ⟨g,0,none⟩),.int .i64 24] ?_;(with_reducible refine (spec_l1Cur_one.calls g s0_0 t239 t240 24 t241 t242 t243 w0 _ ?side1 ?side2 A3.out).mono ?_);(case side1=>exact zz2);(case side2=>exact zz3);rintro e w6 ⟨rfl,hi,hb,hk⟩;refine ⟨_,rfl,?_⟩;replace HK:=Aside0.mk (KeepBut.trans zz0 hk (.inl rfl));replace HB:=Aside0.mk (hb);replace HI0:=Aside0.mk (hi);(try clear hb);(try clear hk);(try clear hi)))
 (try simp only [Act.put,List.setIfInBounds_toArray,List.set_cons_zero,List.set_cons_succ])
 go_cut [4] (fun v4 wc=>∃ (kq:Nat) (x4_3:Int) (x1001_3:Int) (x1002_3:Int),v4=.int .i64 x4_3∧Aside0 (spec_l1Cur_ruled3.j0 kq x4_3 s0_0 x1001_3 x1002_3=some (r1,r2,r3,r4))∧Aside0 (kq≤k)∧Aside0 (IsS52 w0 wc g s0_0 x1001_3 x1002_3)∧Aside0 (KeepBut w wc g none)∧Aside0 (Below w0.heap.size w0 wc))
 case first=>
  have H:=HC4.out
  clear HC4
  by_cases c7:t241=true
  rotate_left
  ·replace c7:=Bool.eq_false_iff.mpr c7
   subst c7
   rw [if_neg (show ¬ (false=true) by decide)] at H
   have H':=Aside0.mk H
   clear H
   go_wp2
   go_meet
   case rel=>exact ⟨_,(wrap64 (1 + t238)),(t242),(t243),zo,H',⟨zz42⟩,⟨zz2⟩,⟨zz0⟩,⟨zz3⟩⟩
  subst c7
  rw [if_pos rfl] at H
  obtain ⟨y244,hy244⟩:∃ y_:List Int,y_=(([0,5,8,(-1)]:List Int)):=⟨_,rfl⟩
  replace H:((spec_l1Cur_among.f s0_0 t242 t243 y244).bind fun bt247=>(spec_l1Cur_ruled3.j0 k bt247.1 s0_0 bt247.2.1 bt247.2.2))=some (r1,r2,r3,r4):=by first|(rw [hy244];with_reducible exact H)|(have H2_:=(Option.bind_some _ _).symm.trans H;rw [hy244];with_reducible exact H2_)|(have H2_:=(Option.bind_some _ _).symm.trans H;with_reducible exact H2_)|with_reducible exact H|(rw [hy244];exact H)|exact H
  have Ny244:=Aside0.mk hy244
  clear hy244
  replace H:=Option.bind_eq_some_iff.mp H
  obtain ⟨⟨t247,t248,t249⟩,A80,H⟩:=H
  try dsimp only at H
  have A8:=Aside0.mk A80
  clear A80
  have H':=Aside0.mk H
  clear H
  go_wp2_with (first|((with_reducible refine gate_dst (N:=11) rfl ?_);refine Kd.R_lit (Kd.int .i64) _ 3 ?hg (N:=11) ?hd (xs:=([0,5,8,(-1)]:List Int)) (inner:=[.int .i64 0,.int .i64 5,.int .i64 8,.int .i64 (-1)]) (ok:=fun _=>True) (okp:=fun _=>True) ?hr ?hp (fun _ hk=>hk) trivial (Below.refl _ _) (Nat.le_refl _) (by simp) ?_;(case hd=>rfl);(case hg=>rfl);(case hr=>first|(go_simp;done)|(go_simp;rfl));(case hp=>exact (Reps.one (show Kd.M (Kd.int .i64) _ _ _ 0 [.int .i64 0] from rfl) (Reps.one (show Kd.M (Kd.int .i64) _ _ _ 5 [.int .i64 5] from rfl) (Reps.one (show Kd.M (Kd.int .i64) _ _ _ 8 [.int .i64 8] from rfl) (Reps.one (show Kd.M (Kd.int .i64) _ _ _ (-1) [.int .i64 (-1)] from rfl) (Reps.none _ _))))));intro v245 w9 ho10 hb hg_ hnew_;clear hg_ hnew_;(first|rw [←Ny244.out] at ho10|(simp only [Int.reduceToNat] at ho10;rw [←Ny244.out] at ho10));have n0_:=Aside0.mk (Kd.R_lower ho10 (keep_size (w:=w) (g:=g) (row:=none) zz0));have n1_:=Aside0.mk (IsS52.below zz2 hb);have n2_:=Aside0.mk (KeepBut.trans zz0 (KeepBut.of_below hb g none) (.inl rfl));have n3_:=Aside0.mk (below_step zz3 hb);clear HI0;clear HK;clear HB;have HO246:=n0_;have HI0:=n1_;have HK:=n2_;have HB:=n3_;clear n0_ n1_ n2_ n3_;clear hb ho10;obtain ⟨Ao11,co11,eo11⟩:=Kd.R_slice HO246.out;subst eo11)|((with_reducible refine gate_callee (f:=44) rfl ?_);refine zgo 12 Try.func44 #[.pointer (some ⟨g,0,none⟩),.slice Ao11 y244.length co11] ?_;(with_reducible refine (spec_l1Cur_among.calls g s0_0 t242 t243 _ _ y244 t247 t248 t249 w0 _ ?side1 ?side2 ?side3 ?side4 ?side5 A8.out).mono ?_);(case side1=>exact zz2);(case side2=>exact zz3);(case side3=>exact zC ((Kd.R_reads' HO246.out).2.2));(case side4=>exact (Kd.R_reads' HO246.out).2.1);(case side5=>exact far_slice (IsS52.own_ne HI0.out HO246.out (by decide)));rintro e w12 ⟨rfl,hi,hb,hk⟩;refine ⟨_,rfl,?_⟩;replace HO246:=Aside0.mk (Kd.R_mono (Kd.R_keep (IsS52.apart (show IsS52 w0 _ g s0_0 t242 t243 from by repeat (first|(with_reducible first|exact HI0.out|apply IsS52.alloc|apply IsS52.drewN|apply IsS52.drew|apply IsS52.set_1|apply IsS52.set_2)|exact HI0.out)) (zR HO246.out) (by decide)) hk (fun _ h=>h.2)) (fun _ h=>h.1));replace HK:=Aside0.mk (KeepBut.trans zz0 hk (.inl rfl));replace HB:=Aside0.mk (hb);replace HI0:=Aside0.mk (hi);(try clear hb);(try clear hk);(try clear hi)))
  go_meet
  case rel=>exact ⟨_,(t247),(t248),(t249),zo,H',⟨zz42⟩,⟨zz2⟩,⟨zz0⟩,⟨zz3⟩⟩
 case rest=>
  clear HC4
  obtain ⟨kq,x4_3,x1001_3,x1002_3,rfl,HA,HJ3,HI0,HK,HB⟩:=hcut
  cases kq with
  | zero=>exact absurd HA.out (by simp [spec_l1Cur_ruled3.j0])
  | succ kj3=>
   have H:=HA.out
   clear HA
   simp only [spec_l1Cur_ruled3.j0] at H
   by_cases c13:x4_3=1
   rotate_left
   ·rw [if_neg c13] at H
    have c13b0:(x4_3 == 1)=false:=beq_eq_false_iff_ne.mpr c13
    have c13b1:(x4_3 != 1)=true:=bne_iff_ne.mpr c13
    replace H:=Option.bind_eq_some_iff.mp H
    obtain ⟨⟨t255,t258,t259⟩,A160,H⟩:=H
    try dsimp only at H
    have A16:=Aside0.mk A160
    clear A160
    simp only [Option.some.injEq,Prod.mk.injEq] at H
    obtain ⟨rfl,rfl,rfl,rfl⟩:=H
    go_wp2_with (first|((with_reducible refine gate_callee (f:=46) rfl ?_);refine zgo 19 Try.func46 #[.pointer (some ⟨g,0,none⟩)] ?_;(with_reducible refine (spec_l1Cur_plain3.calls kj3 g s0_0 x1001_3 x1002_3 t255 t258 t259 w0 _ ?side1 ?side2 A16.out).mono ?_);(case side1=>exact zz2);(case side2=>exact zz3);rintro e w17 ⟨v256,rfl,ho0,hi,hb,hk⟩;refine ⟨_,rfl,?_⟩;have HO257:=Aside0.mk (Kd.R_lower ho0 (keep_size (w:=w) (g:=g) (row:=none) zz0));replace HK:=Aside0.mk (KeepBut.trans zz0 hk (.inl rfl));replace HB:=Aside0.mk (hb);replace HI0:=Aside0.mk (hi);(try clear hb);(try clear hk);(try clear hi);(try clear ho0)))
    go_ret2
    exact ⟨_,zz1,zR HO257.out,zz2,zz3,zz0⟩
   rw [if_pos c13] at H
   have c13b0:(x4_3 == 1)=true:=beq_iff_eq.mpr c13
   have c13b1:(x4_3 != 1)=false:=bne_eq_false_iff_eq.mpr c13
   clear c13
   replace H:=Option.bind_eq_some_iff.mp H
   obtain ⟨⟨t250,t253,t254⟩,A140,H⟩:=H
   try dsimp only at H
   have A14:=Aside0.mk A140
   clear A140
   simp only [Option.some.injEq,Prod.mk.injEq] at H
   obtain ⟨rfl,rfl,rfl,rfl⟩:=H
   go_wp2_with (first|((with_reducible refine gate_callee (f:=45) rfl ?_);refine zgo 16 Try.func45 #[.pointer (some ⟨g,0,none⟩)] ?_;(with_reducible refine (spec_l1Cur_jobs.calls kj3 g s0_0 x1001_3 x1002_3 t250 t253 t254 w0 _ ?side1 ?side2 A14.out).mono ?_);(case side1=>exact zz2);(case side2=>exact zz3);rintro e w15 ⟨v251,rfl,ho0,hi,hb,hk⟩;refine ⟨_,rfl,?_⟩;have HO252:=Aside0.mk (Kd.R_lower ho0 (keep_size (w:=w) (g:=g) (row:=none) zz0));replace HK:=Aside0.mk (KeepBut.trans zz0 hk (.inl rfl));replace HB:=Aside0.mk (hb);replace HI0:=Aside0.mk (hi);(try clear hb);(try clear hk);(try clear hi);(try clear ho0)))
   go_ret2
   exact ⟨_,zz1,zR HO252.out,zz2,zz3,zz0⟩

/-! ### spec_DrawRuledOrder: function 15 -/
def spec_DrawRuledOrder.f (k:Nat) (l0:List Int):Option ((List (S44)) × Int):=(spec_l1Cur_ruled3.f k l0 0 0).bind fun bt261=>(some (bt261.1,bt261.2.1))
theorem spec_DrawRuledOrder.mono:∀ a0 k,LeO (spec_DrawRuledOrder.f k a0) (spec_DrawRuledOrder.f (k + 1) a0):=by
 intro a0 k
 unfold spec_DrawRuledOrder.f
 repeat' first|(with_reducible first|exact spec_l1Cur_ruled3.mono _ _ _ _|exact LeO.refl _|exact LeO.none _|refine LeO.ite ?_ ?_|refine LeO.bind ?_ (fun _=>?_))|exact spec_l1Cur_ruled3.mono _ _ _ _|exact LeO.none _|refine LeO.ite ?_ ?_|refine LeO.bind ?_ (fun _=>?_)
set_option maxHeartbeats 8000000 in
set_option maxRecDepth 100000 in
theorem spec_DrawRuledOrder.calls (k:Nat) (A0:Option Addr) (c0:Nat) (l0:List Int) (r1:List (S44)) (r2:Int) (w:World) (hr0:Kd.C (Kd.int .u8) w A0 l0.length l0) (hc0:l0.length≤c0) (h:spec_DrawRuledOrder.f k l0=some (r1,r2)) :
  Calls Try.prog 15 #[.slice A0 l0.length c0] w fun e w'=>∃ v0_:Value,e=.returned (.tuple #[v0_,.int .i64 r2])∧Kd.R k44 44 w' w.heap.size (fun _=>True) v0_ r1∧Below w.heap.size w w':=by
 have hu52:=Try.underlying52
 have HR0:=Aside0.mk hr0
 have HC0:=Aside0.mk hc0
 clear hr0 hc0
 have HB:=Aside0.mk (Below.refl w.heap.size w)
 have H:((spec_l1Cur_ruled3.f k l0 0 0).bind fun bt261=>(some (bt261.1,bt261.2.1)))=some (r1,r2):=h
 clear h
 replace H:=Option.bind_eq_some_iff.mp H
 obtain ⟨⟨t261,t264,t265,t266⟩,A20,H⟩:=H
 try dsimp only at H
 have A2:=Aside0.mk A20
 clear A20
 simp only [Option.some.injEq,Prod.mk.injEq] at H
 obtain ⟨rfl,rfl⟩:=H
 go_enter Try.func15,Try.ntmps15
 go_wp2_with (first|((with_reducible refine gate_dst (N:=7) rfl ?_);refine box_event ?hg (N:=7) ?hd (cs:=#[.slice A0 l0.length c0,.int .i64 0,.int .u64 0]) (t:=52) ?hr ?_;(case hd=>rfl);(case hg=>rfl);(case hr=>first|(go_simp;done)|(go_simp;rfl));intro gb260 hg w3 hbox hb;have n0_:=zb1 hb;have n1_:=Aside0.mk ((by rw [hg];exact (below_size zb):w.heap.size≤gb260));have n2_:=Aside0.mk ((by rw [hg];exact (below_size zb):w.heap.size≤gb260));have n3_:=Aside0.mk ((show IsS52 w _ gb260 l0 0 0 from ⟨_,_,hbox,(by rw [hg];exact (below_size zb):w.heap.size≤gb260),HR0.out⟩));clear HB;have HB:=n0_;have GW260:=n1_;have GE260:=n2_;have HI260:=n3_;clear n0_ n1_ n2_ n3_;clear hb hbox hg)|((with_reducible refine gate_callee (f:=26) rfl ?_);refine zgo 9 Try.func26 #[.pointer (some ⟨gb260,0,none⟩)] ?_;(with_reducible refine (spec_l1Cur_ruled3.calls k gb260 l0 0 0 t261 t264 t265 t266 w _ ?side1 ?side2 A2.out).mono ?_);(case side1=>repeat (first|(with_reducible first|exact HI260.out|apply IsS52.alloc|apply IsS52.drewN|apply IsS52.drew|apply IsS52.set_1|apply IsS52.set_2)|exact HI260.out));(case side2=>exact zz61);rintro e w4 ⟨v262,rfl,ho0,hi,hb,hk⟩;refine ⟨_,rfl,?_⟩;have HO263:=Aside0.mk (Kd.R_lower ho0 (below_size zz61));replace HB:=Aside0.mk (hb);replace HI260:=Aside0.mk (hi);(try clear hb);(try clear hk);(try clear hi);(try clear ho0)))
 go_ret2
 exact ⟨_,zz1,zR HO263.out,zz61⟩

/-! ### spec_DrawTieGroups: function 5 -/
def spec_DrawTieGroups.f (k:Nat) (l0:List Int):Option ((List (S44)) × Int):=(spec_DrawRuledOrder.f k l0).bind fun bt267=>(some (bt267.1,bt267.2))
theorem spec_DrawTieGroups.mono:∀ a0 k,LeO (spec_DrawTieGroups.f k a0) (spec_DrawTieGroups.f (k + 1) a0):=by
 intro a0 k
 unfold spec_DrawTieGroups.f
 repeat' first|(with_reducible first|exact spec_DrawRuledOrder.mono _ _|exact LeO.refl _|exact LeO.none _|refine LeO.ite ?_ ?_|refine LeO.bind ?_ (fun _=>?_))|exact spec_DrawRuledOrder.mono _ _|exact LeO.none _|refine LeO.ite ?_ ?_|refine LeO.bind ?_ (fun _=>?_)
set_option maxHeartbeats 8000000 in
set_option maxRecDepth 100000 in
theorem spec_DrawTieGroups.calls (k:Nat) (A0:Option Addr) (c0:Nat) (l0:List Int) (r1:List (S44)) (r2:Int) (w:World) (hr0:Kd.C (Kd.int .u8) w A0 l0.length l0) (hc0:l0.length≤c0) (h:spec_DrawTieGroups.f k l0=some (r1,r2)) :
  Calls Try.prog 5 #[.slice A0 l0.length c0] w fun e w'=>∃ v0_:Value,e=.returned (.tuple #[v0_,.int .i64 r2])∧Kd.R k44 44 w' w.heap.size (fun _=>True) v0_ r1∧Below w.heap.size w w':=by
 have HR0:=Aside0.mk hr0
 have HC0:=Aside0.mk hc0
 clear hr0 hc0
 have HB:=Aside0.mk (Below.refl w.heap.size w)
 have H:((spec_DrawRuledOrder.f k l0).bind fun bt267=>(some (bt267.1,bt267.2)))=some (r1,r2):=h
 clear h
 replace H:=Option.bind_eq_some_iff.mp H
 obtain ⟨⟨t267,t268⟩,A20,H⟩:=H
 try dsimp only at H
 have A2:=Aside0.mk A20
 clear A20
 simp only [Option.some.injEq,Prod.mk.injEq] at H
 obtain ⟨rfl,rfl⟩:=H
 go_enter Try.func5,Try.ntmps5
 go_wp2_with (first|((with_reducible refine gate_callee (f:=15) rfl ?_);refine zgo 5 Try.func15 #[.slice A0 l0.length c0] ?_;(with_reducible refine (spec_DrawRuledOrder.calls k _ _ l0 t267 t268 _ ?side1 ?side2 A2.out).mono ?_);(case side1=>exact zC HR0.out);(case side2=>exact HC0.out);rintro e w3 ⟨v269,rfl,ho0,hb⟩;refine ⟨_,rfl,?_⟩;have HO270:=Aside0.mk (Kd.R_lower ho0 (below_size zb));replace HB:=zb1 hb;(try clear hb);(try clear ho0)))
 go_ret2
 exact ⟨_,zz1,zR HO270.out,zb⟩

/-! ### impl_within: function 27 -/
def impl_within.f (a0:Int) (a1:Int) (a2:Int):Option (Bool):=if a1≤a0 then (some (decide (a0≤a2))) else (some false)
set_option maxHeartbeats 8000000 in
set_option maxRecDepth 100000 in
theorem impl_within.calls (a0:Int) (a1:Int) (a2:Int) (r:Bool) (w:World) (h:impl_within.f a0 a1 a2=some r) :
  Calls Try.prog 27 #[.int .i64 a0,.int .i64 a1,.int .i64 a2] w fun e w'=>e=.returned (.bool r)∧Drawn0 w w':=by
 have H:(if a1≤a0 then (some (decide (a0≤a2))) else (some false))=some r:=h
 clear h
 by_cases c4:a1≤a0
 ·rw [if_pos c4] at H
  have c4b0:=decide_eq_true c4
  clear c4
  obtain rfl:=Option.some.inj H
  go_enter Try.func27,Try.ntmps27
  go_wp2
  go_ret
  exact ⟨zz10,zz5⟩
 rw [if_neg c4] at H
 have c4b0:=decide_eq_false c4
 clear c4
 obtain rfl:=Option.some.inj H
 go_enter Try.func27,Try.ntmps27
 go_wp2
 go_ret
 exact ⟨zz10,zz5⟩

/-! ### impl_isDate: function 37 -/
def impl_isDate.f (a0:Int):Option (Bool):=(impl_within.f a0 0 500).bind fun t271=>(some t271)
set_option maxHeartbeats 8000000 in
set_option maxRecDepth 100000 in
theorem impl_isDate.calls (a0:Int) (r:Bool) (w:World) (h:impl_isDate.f a0=some r) :
  Calls Try.prog 37 #[.int .i64 a0] w fun e w'=>e=.returned (.bool r)∧Drawn0 w w':=by
 have H:((impl_within.f a0 0 500).bind fun t271=>(some t271))=some r:=h
 clear h
 replace H:=Option.bind_eq_some_iff.mp H
 obtain ⟨t271,A20,H⟩:=H
 try dsimp only at H
 have A2:=Aside0.mk A20
 clear A20
 obtain rfl:=Option.some.inj H
 go_enter Try.func37,Try.ntmps37
 go_wp2_with (first|((with_reducible refine gate_callee (f:=27) rfl ?_);refine zgo 4 Try.func27 #[.int .i64 a0,.int .i64 0,.int .i64 500] ?_;(with_reducible refine (impl_within.calls a0 0 500 t271 _ A2.out).mono ?_);rintro e w' ⟨rfl,⟨nd,rfl⟩⟩;refine ⟨_,rfl,?_⟩))
 go_ret
 exact ⟨zz10,zz5⟩

/-! ### impl_IsJobs: function 23 -/
def impl_IsJobs.l0:Nat→List (S44)→Int→Int→Option (Bool)
 | 0,_,_,_=>none
 | k + 1,x8,x9,x10=>if x10<x9 then (if 0≤x10 then (if x10<(x8.length:Int) then ((impl_within.f ((rd_T44 x8 x10).f0) 1 50).bind fun t274=>(if t274=true then ((impl_within.f ((rd_T44 x8 x10).f1) 0 50).bind fun t275=>(if t275=true then ((impl_isDate.f ((rd_T44 x8 x10).f2)).bind fun t276=>(if t276=true then ((impl_isDate.f ((rd_T44 x8 x10).f3)).bind fun t277=>(if t277=true then (impl_IsJobs.l0 k x8 x9 (wrap64 (x10 + 1))) else (some false))) else (some false))) else (some false))) else (some false))) else (none)) else (none)) else (some true)
def impl_IsJobs.f (k:Nat) (l0:List (S44)):Option (Bool):=if (l0.length:Int)>8 then (some false) else (impl_IsJobs.l0 k l0 (l0.length:Int) 0)
theorem impl_IsJobs.mono_l:∀ k,(∀ y0 y1 y2,LeO (impl_IsJobs.l0 k y0 y1 y2) (impl_IsJobs.l0 (k + 1) y0 y1 y2))
 | 0=>fun _ _ _ r h=>by simp [impl_IsJobs.l0] at h
 | k + 1=>by
  have ih0:=impl_IsJobs.mono_l k
  ·intro y0 y1 y2
   unfold impl_IsJobs.l0
   repeat' first|(with_reducible first|apply ih0|exact LeO.refl _|exact LeO.none _|refine LeO.ite ?_ ?_|refine LeO.bind ?_ (fun _=>?_))|apply ih0|exact LeO.none _|refine LeO.ite ?_ ?_|refine LeO.bind ?_ (fun _=>?_)
theorem impl_IsJobs.mono:∀ a0 k,LeO (impl_IsJobs.f k a0) (impl_IsJobs.f (k + 1) a0):=by
 intro a0 k
 have ih0:=impl_IsJobs.mono_l k
 unfold impl_IsJobs.f
 repeat' first|(with_reducible first|apply ih0|exact LeO.refl _|exact LeO.none _|refine LeO.ite ?_ ?_|refine LeO.bind ?_ (fun _=>?_))|apply ih0|exact LeO.none _|refine LeO.ite ?_ ?_|refine LeO.bind ?_ (fun _=>?_)
set_option maxHeartbeats 8000000 in
set_option maxRecDepth 100000 in
theorem impl_IsJobs.calls (k:Nat) (A0:Option Addr) (c0:Nat) (l0:List (S44)) (r:Bool) (w:World) (hr0:Kd.C k44 w A0 l0.length l0) (hc0:l0.length≤c0) (h:impl_IsJobs.f k l0=some r) :
  Calls Try.prog 23 #[.slice A0 l0.length c0] w fun e w'=>e=.returned (.bool r)∧Below w.heap.size w w':=by
 have hu44:=Try.underlying44
 have HR0:=Aside0.mk hr0
 have HC0:=Aside0.mk hc0
 clear hr0 hc0
 have HB:=Aside0.mk (Below.refl w.heap.size w)
 have H:(if (l0.length:Int)>8 then (some false) else (impl_IsJobs.l0 k l0 (l0.length:Int) 0))=some r:=h
 clear h
 by_cases c2:(l0.length:Int)>8
 ·rw [if_pos c2] at H
  have c2b0:=decide_eq_true c2
  have c2b1:decide (8<l0.length)=true:=decide_eq_true (by omega)
  clear c2
  obtain rfl:=Option.some.inj H
  go_enter Try.func23,Try.ntmps23
  go_wp2
  go_ret
  exact ⟨zz1,zb⟩
 rw [if_neg c2] at H
 have c2b0:=decide_eq_false c2
 have c2b1:decide (8<l0.length)=false:=decide_eq_false (by omega)
 clear c2
 have H':=Aside0.mk H
 clear H
 go_enter Try.func23,Try.ntmps23
 go_wp2
 go_loopg [10] k (fun kq v10 w'=>∃ (x10_1:Int),v10=.int .i64 x10_1∧Aside0 (impl_IsJobs.l0 kq l0 (l0.length:Int) x10_1=some r)∧Aside0 (kq≤k)∧Aside0 (Below w.heap.size w w'))
 case atStart=>exact ⟨(0),zo,H',⟨Nat.le_refl _⟩,⟨zb⟩⟩
 case round=>
  clear H'
  obtain ⟨x10_1,rfl,HA,HK1,HB⟩:=hrel
  cases gk with
  | zero=>exact absurd HA.out (by simp [impl_IsJobs.l0])
  | succ k1=>
   have H:=HA.out
   clear HA
   simp only [impl_IsJobs.l0] at H
   by_cases c3:x10_1<(l0.length:Int)
   rotate_left
   ·rw [if_neg c3] at H
    have c3b0:=decide_eq_false c3
    clear c3
    obtain rfl:=Option.some.inj H
    go_wp2
    go_ret
    exact ⟨zz1,zb⟩
   rw [if_pos c3] at H
   have c3b0:=decide_eq_true c3
   clear c3
   by_cases c4:0≤x10_1
   rotate_left
   ·rw [if_neg c4] at H
    exact absurd H (by simp)
   rw [if_pos c4] at H
   have c4b0:=decide_eq_true c4
   clear c4
   by_cases c5:x10_1<(l0.length:Int)
   rotate_left
   ·rw [if_neg c5] at H
    exact absurd H (by simp)
   rw [if_pos c5] at H
   have c5b0:=decide_eq_true c5
   clear c5
   replace H:=Option.bind_eq_some_iff.mp H
   obtain ⟨t274,A60,H⟩:=H
   try dsimp only at H
   have A6:=Aside0.mk A60
   clear A60
   by_cases c7:t274=true
   rotate_left
   ·replace c7:=Bool.eq_false_iff.mpr c7
    subst c7
    rw [if_neg (show ¬ (false=true) by decide)] at H
    obtain rfl:=Option.some.inj H
    have p272:0≤(x10_1:Int):=of_decide_eq_true za
    have q272:x10_1<(l0.length:Int):=of_decide_eq_true za
    obtain ⟨ad272,e272,hx272_0,hx272_1,hx272_2,hx272_3⟩:=at_T44 HR0.out x10_1 p272 q272
    cases e272
    replace hx272_0:=zh_ HB hx272_0
    replace hx272_1:=zh_ HB hx272_1
    replace hx272_2:=zh_ HB hx272_2
    replace hx272_3:=zh_ HB hx272_3
    replace p272:=eq_true p272
    replace q272:=eq_true q272
    go_wp2_with (first|((with_reducible refine gate_dst (N:=4) rfl ?_);refine box_event ?hg (N:=4) ?hd (cs:=#[.int .i64 0,.int .i64 0,.int .i64 0,.int .i64 0]) (t:=44) ?hr ?_;(case hd=>rfl);(case hg=>rfl);(case hr=>first|(go_simp;done)|(go_simp;rfl));intro gb273 hg w22 hbox hb;have n0_:=zb1 hb;have n1_:=Aside0.mk (hbox);have n2_:=Aside0.mk ((by rw [hg];exact (below_size zb):w.heap.size≤gb273));have n3_:=Aside0.mk ((by rw [hg];exact (below_size zb):w.heap.size≤gb273));clear HB;have HB:=n0_;have BK273:=n1_;have GW273:=n2_;have GE273:=n3_;clear n0_ n1_ n2_ n3_;clear hb hbox hg;obtain ⟨hcz23_0,hcz23_1,hcz23_2,hcz23_3,hfz23_0,hfz23_1,hfz23_2,hfz23_3⟩:=zk4 BK273.out)|((with_reducible refine gate_callee (f:=27) rfl ?_);refine zgo 16 Try.func27 #[.int .i64 ((rd_T44 l0 x10_1).f0),.int .i64 1,.int .i64 50] ?_;(with_reducible refine (impl_within.calls ((rd_T44 l0 x10_1).f0) 1 50 false _ A6.out).mono ?_);rintro e w' ⟨rfl,⟨nd,rfl⟩⟩;refine ⟨_,rfl,?_⟩))
    go_ret
    exact ⟨zz1,zz47⟩
   subst c7
   rw [if_pos rfl] at H
   replace H:=Option.bind_eq_some_iff.mp H
   obtain ⟨t275,A80,H⟩:=H
   try dsimp only at H
   have A8:=Aside0.mk A80
   clear A80
   by_cases c9:t275=true
   rotate_left
   ·replace c9:=Bool.eq_false_iff.mpr c9
    subst c9
    rw [if_neg (show ¬ (false=true) by decide)] at H
    obtain rfl:=Option.some.inj H
    have p272:0≤(x10_1:Int):=of_decide_eq_true za
    have q272:x10_1<(l0.length:Int):=of_decide_eq_true za
    obtain ⟨ad272,e272,hx272_0,hx272_1,hx272_2,hx272_3⟩:=at_T44 HR0.out x10_1 p272 q272
    cases e272
    replace hx272_0:=zh_ HB hx272_0
    replace hx272_1:=zh_ HB hx272_1
    replace hx272_2:=zh_ HB hx272_2
    replace hx272_3:=zh_ HB hx272_3
    replace p272:=eq_true p272
    replace q272:=eq_true q272
    go_wp2_with (first|((with_reducible refine gate_dst (N:=4) rfl ?_);refine box_event ?hg (N:=4) ?hd (cs:=#[.int .i64 0,.int .i64 0,.int .i64 0,.int .i64 0]) (t:=44) ?hr ?_;(case hd=>rfl);(case hg=>rfl);(case hr=>first|(go_simp;done)|(go_simp;rfl));intro gb273 hg w20 hbox hb;have n0_:=zb1 hb;have n1_:=Aside0.mk (hbox);have n2_:=Aside0.mk ((by rw [hg];exact (below_size zb):w.heap.size≤gb273));have n3_:=Aside0.mk ((by rw [hg];exact (below_size zb):w.heap.size≤gb273));clear HB;have HB:=n0_;have BK273:=n1_;have GW273:=n2_;have GE273:=n3_;clear n0_ n1_ n2_ n3_;clear hb hbox hg;obtain ⟨hcz21_0,hcz21_1,hcz21_2,hcz21_3,hfz21_0,hfz21_1,hfz21_2,hfz21_3⟩:=zk4 BK273.out)|((with_reducible refine gate_callee (f:=27) rfl ?_);refine zgo 16 Try.func27 #[.int .i64 ((rd_T44 l0 x10_1).f0),.int .i64 1,.int .i64 50] ?_;(with_reducible refine (impl_within.calls ((rd_T44 l0 x10_1).f0) 1 50 true _ A6.out).mono ?_);rintro e w' ⟨rfl,⟨nd,rfl⟩⟩;refine ⟨_,rfl,?_⟩)|(go_at_call 27;(with_reducible refine (impl_within.calls ((rd_T44 l0 x10_1).f1) 0 50 false _ A8.out).mono ?_);rintro e w' ⟨rfl,⟨nd,rfl⟩⟩))
    go_ret
    exact ⟨zz1,zz47⟩
   subst c9
   rw [if_pos rfl] at H
   replace H:=Option.bind_eq_some_iff.mp H
   obtain ⟨t276,A100,H⟩:=H
   try dsimp only at H
   have A10:=Aside0.mk A100
   clear A100
   by_cases c11:t276=true
   rotate_left
   ·replace c11:=Bool.eq_false_iff.mpr c11
    subst c11
    rw [if_neg (show ¬ (false=true) by decide)] at H
    obtain rfl:=Option.some.inj H
    have p272:0≤(x10_1:Int):=of_decide_eq_true za
    have q272:x10_1<(l0.length:Int):=of_decide_eq_true za
    obtain ⟨ad272,e272,hx272_0,hx272_1,hx272_2,hx272_3⟩:=at_T44 HR0.out x10_1 p272 q272
    cases e272
    replace hx272_0:=zh_ HB hx272_0
    replace hx272_1:=zh_ HB hx272_1
    replace hx272_2:=zh_ HB hx272_2
    replace hx272_3:=zh_ HB hx272_3
    replace p272:=eq_true p272
    replace q272:=eq_true q272
    go_wp2_with (first|((with_reducible refine gate_dst (N:=4) rfl ?_);refine box_event ?hg (N:=4) ?hd (cs:=#[.int .i64 0,.int .i64 0,.int .i64 0,.int .i64 0]) (t:=44) ?hr ?_;(case hd=>rfl);(case hg=>rfl);(case hr=>first|(go_simp;done)|(go_simp;rfl));intro gb273 hg w18 hbox hb;have n0_:=zb1 hb;have n1_:=Aside0.mk (hbox);have n2_:=Aside0.mk ((by rw [hg];exact (below_size zb):w.heap.size≤gb273));have n3_:=Aside0.mk ((by rw [hg];exact (below_size zb):w.heap.size≤gb273));clear HB;have HB:=n0_;have BK273:=n1_;have GW273:=n2_;have GE273:=n3_;clear n0_ n1_ n2_ n3_;clear hb hbox hg;obtain ⟨hcz19_0,hcz19_1,hcz19_2,hcz19_3,hfz19_0,hfz19_1,hfz19_2,hfz19_3⟩:=zk4 BK273.out)|((with_reducible refine gate_callee (f:=27) rfl ?_);refine zgo 16 Try.func27 #[.int .i64 ((rd_T44 l0 x10_1).f0),.int .i64 1,.int .i64 50] ?_;(with_reducible refine (impl_within.calls ((rd_T44 l0 x10_1).f0) 1 50 true _ A6.out).mono ?_);rintro e w' ⟨rfl,⟨nd,rfl⟩⟩;refine ⟨_,rfl,?_⟩)|(go_at_call 27;(with_reducible refine (impl_within.calls ((rd_T44 l0 x10_1).f1) 0 50 true _ A8.out).mono ?_);rintro e w' ⟨rfl,⟨nd,rfl⟩⟩)|(go_at_call 37;(with_reducible refine (impl_isDate.calls ((rd_T44 l0 x10_1).f2) false _ A10.out).mono ?_);rintro e w' ⟨rfl,⟨nd,rfl⟩⟩))
    go_ret
    exact ⟨zz1,zz47⟩
   subst c11
   rw [if_pos rfl] at H
   replace H:=Option.bind_eq_some_iff.mp H
   obtain ⟨t277,A120,H⟩:=H
   try dsimp only at H
   have A12:=Aside0.mk A120
   clear A120
   by_cases c13:t277=true
   ·subst c13
    rw [if_pos rfl] at H
    have H':=Aside0.mk H
    clear H
    have p272:0≤(x10_1:Int):=of_decide_eq_true za
    have q272:x10_1<(l0.length:Int):=of_decide_eq_true za
    obtain ⟨ad272,e272,hx272_0,hx272_1,hx272_2,hx272_3⟩:=at_T44 HR0.out x10_1 p272 q272
    cases e272
    replace hx272_0:=zh_ HB hx272_0
    replace hx272_1:=zh_ HB hx272_1
    replace hx272_2:=zh_ HB hx272_2
    replace hx272_3:=zh_ HB hx272_3
    replace p272:=eq_true p272
    replace q272:=eq_true q272
    go_wp2_with (first|((with_reducible refine gate_dst (N:=4) rfl ?_);refine box_event ?hg (N:=4) ?hd (cs:=#[.int .i64 0,.int .i64 0,.int .i64 0,.int .i64 0]) (t:=44) ?hr ?_;(case hd=>rfl);(case hg=>rfl);(case hr=>first|(go_simp;done)|(go_simp;rfl));intro gb273 hg w14 hbox hb;have n0_:=zb1 hb;have n1_:=Aside0.mk (hbox);have n2_:=Aside0.mk ((by rw [hg];exact (below_size zb):w.heap.size≤gb273));have n3_:=Aside0.mk ((by rw [hg];exact (below_size zb):w.heap.size≤gb273));clear HB;have HB:=n0_;have BK273:=n1_;have GW273:=n2_;have GE273:=n3_;clear n0_ n1_ n2_ n3_;clear hb hbox hg;obtain ⟨hcz15_0,hcz15_1,hcz15_2,hcz15_3,hfz15_0,hfz15_1,hfz15_2,hfz15_3⟩:=zk4 BK273.out)|((with_reducible refine gate_callee (f:=27) rfl ?_);refine zgo 16 Try.func27 #[.int .i64 ((rd_T44 l0 x10_1).f0),.int .i64 1,.int .i64 50] ?_;(with_reducible refine (impl_within.calls ((rd_T44 l0 x10_1).f0) 1 50 true _ A6.out).mono ?_);rintro e w' ⟨rfl,⟨nd,rfl⟩⟩;refine ⟨_,rfl,?_⟩)|(go_at_call 27;(with_reducible refine (impl_within.calls ((rd_T44 l0 x10_1).f1) 0 50 true _ A8.out).mono ?_);rintro e w' ⟨rfl,⟨nd,rfl⟩⟩)|(go_at_call 37;(with_reducible refine (impl_isDate.calls ((rd_T44 l0 x10_1).f2) true _ A10.out).mono ?_);rintro e w' ⟨rfl,⟨nd,rfl⟩⟩)|(go_at_call 37;(with_reducible refine (impl_isDate.calls ((rd_T44 l0 x10_1).f3) true _ A12.out).mono ?_);rintro e w' ⟨rfl,⟨nd,rfl⟩⟩))
    go_roundg k1
    case measure=>have:=HK1.out;omega
    case rel=>exact ⟨(wrap64 (x10_1 + 1)),zo,H',⟨by have:=HK1.out;omega⟩,⟨zz47⟩⟩
   replace c13:=Bool.eq_false_iff.mpr c13
   subst c13
   rw [if_neg (show ¬ (false=true) by decide)] at H
   obtain rfl:=Option.some.inj H
   have p272:0≤(x10_1:Int):=of_decide_eq_true za
   have q272:x10_1<(l0.length:Int):=of_decide_eq_true za
   obtain ⟨ad272,e272,hx272_0,hx272_1,hx272_2,hx272_3⟩:=at_T44 HR0.out x10_1 p272 q272
   cases e272
   replace hx272_0:=zh_ HB hx272_0
   replace hx272_1:=zh_ HB hx272_1
   replace hx272_2:=zh_ HB hx272_2
   replace hx272_3:=zh_ HB hx272_3
   replace p272:=eq_true p272
   replace q272:=eq_true q272
   go_wp2_with (first|((with_reducible refine gate_dst (N:=4) rfl ?_);refine box_event ?hg (N:=4) ?hd (cs:=#[.int .i64 0,.int .i64 0,.int .i64 0,.int .i64 0]) (t:=44) ?hr ?_;(case hd=>rfl);(case hg=>rfl);(case hr=>first|(go_simp;done)|(go_simp;rfl));intro gb273 hg w16 hbox hb;have n0_:=zb1 hb;have n1_:=Aside0.mk (hbox);have n2_:=Aside0.mk ((by rw [hg];exact (below_size zb):w.heap.size≤gb273));have n3_:=Aside0.mk ((by rw [hg];exact (below_size zb):w.heap.size≤gb273));clear HB;have HB:=n0_;have BK273:=n1_;have GW273:=n2_;have GE273:=n3_;clear n0_ n1_ n2_ n3_;clear hb hbox hg;obtain ⟨hcz17_0,hcz17_1,hcz17_2,hcz17_3,hfz17_0,hfz17_1,hfz17_2,hfz17_3⟩:=zk4 BK273.out)|((with_reducible refine gate_callee (f:=27) rfl ?_);refine zgo 16 Try.func27 #[.int .i64 ((rd_T44 l0 x10_1).f0),.int .i64 1,.int .i64 50] ?_;(with_reducible refine (impl_within.calls ((rd_T44 l0 x10_1).f0) 1 50 true _ A6.out).mono ?_);rintro e w' ⟨rfl,⟨nd,rfl⟩⟩;refine ⟨_,rfl,?_⟩)|(go_at_call 27;(with_reducible refine (impl_within.calls ((rd_T44 l0 x10_1).f1) 0 50 true _ A8.out).mono ?_);rintro e w' ⟨rfl,⟨nd,rfl⟩⟩)|(go_at_call 37;(with_reducible refine (impl_isDate.calls ((rd_T44 l0 x10_1).f2) true _ A10.out).mono ?_);rintro e w' ⟨rfl,⟨nd,rfl⟩⟩)|(go_at_call 37;(with_reducible refine (impl_isDate.calls ((rd_T44 l0 x10_1).f3) false _ A12.out).mono ?_);rintro e w' ⟨rfl,⟨nd,rfl⟩⟩))
   go_ret
   exact ⟨zz1,zz47⟩

end Go.Proofs.Ytkcfmaiknmfokaa.XFnTies
-- minified
