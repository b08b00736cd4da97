-- Words and walks of this claim.
import Derived.Test.YtkolecmpncaooaaXFnLongestFirstx3
namespace Go.Proofs.Ytkolecmpncaooaa.XFnLongestFirst
set_option maxRecDepth 100000
set_option maxHeartbeats 8000000
open Go.RowKit Go.Proofs.YtkolecmpncaooaaW.PrintWords Go.Proofs.YtkolecmpncaooaaW.PrintLast Go.Proofs.YtkolecmpncaooaaW.PrintMore
attribute [local go_sem] max2_int min2_int max_two min_two max_three min_three max_four min_four
attribute [local go_sem] idxA_51_0 idxA_51_1 fldS_45_0 fldS_45_1 fldS_45_2 fldS_96_0 fldS_96_1 fldS_96_2
set_option linter.unusedVariables false
set_option linter.unusedSimpArgs false
def spec_l1Cur_plain3.l0:Nat->List (S31)->Int->List Int->Int->Int->Option ((List (S31)) × Int × Int)
 | 0,_,_,_,_,_=>none
 | k + 1,x3,x4,x1000,x1001,x1002=>if x4<(x3.length:Int) then (if 0<=x4 then ((some (x3.set (x4:Int).toNat (⟨(rd_T31 x3 x4).f0,(rd_T31 x3 x4).f1,0,(rd_T31 x3 x4).f3⟩:S31):List (S31))).bind fun y230=>(if x4>0 then ((spec_l1Cur_one.f x1000 x1001 x1002 3).bind fun bt231=>(if bt231.1=true then (if 0<=(wrap64 (x4 - 1)) then (if (wrap64 (x4 - 1))<(x3.length:Int) then ((some (y230.set (x4:Int).toNat (⟨(rd_T31 y230 (wrap64 (x4 - 1))).f0,(rd_T31 y230 x4).f1,(rd_T31 y230 x4).f2,(rd_T31 y230 x4).f3⟩:S31):List (S31))).bind fun y235=>(spec_l1Cur_plain3.l0 k (y235.set (x4:Int).toNat (⟨(rd_T31 y235 x4).f0,(rd_T31 y235 (wrap64 (x4 - 1))).f1,(rd_T31 y235 x4).f2,(rd_T31 y235 x4).f3⟩:S31)) (wrap64 (x4 + 1)) x1000 bt231.2.1 bt231.2.2)) else (none)) else (none)) else (spec_l1Cur_plain3.l0 k y230 (wrap64 (x4 + 1)) x1000 bt231.2.1 bt231.2.2))) else (spec_l1Cur_plain3.l0 k y230 (wrap64 (x4 + 1)) x1000 x1001 x1002))) else (none)) else (some (x3,x1001,x1002))
def spec_l1Cur_plain3.f (k:Nat) (s0_0:List Int) (s0_1:Int) (s0_2:Int):Option ((List (S31)) × Int × Int):=(spec_l1Cur_jobs.f k s0_0 s0_1 s0_2).bind fun bt222=>((spec_l1Cur_one.f s0_0 bt222.2.1 bt222.2.2 24).bind fun bt227=>(if bt227.1=true then (some (bt222.1,bt227.2.1,bt227.2.2)) else (spec_l1Cur_plain3.l0 k bt222.1 0 s0_0 bt227.2.1 bt227.2.2)))
theorem spec_l1Cur_plain3.calls (k:Nat) (g:Nat) (s0_0:List Int) (s0_1:Int) (s0_2:Int) (r1:List (S31)) (r2:Int) (r3:Int) (w0 w:World) (hI:IsS45 w0 w g s0_0 s0_1 s0_2) (hB:Below w0.heap.size w0 w) (h:spec_l1Cur_plain3.f k s0_0 s0_1 s0_2=some (r1,r2,r3)) :
  Calls Try.prog 72 #[.pointer (some ⟨g,0,none⟩)] w fun e w'=>∃ v0_:Value,e=.returned (v0_)/\Kd.R k31 31 w' w.heap.size (fun _=>True) v0_ r1/\IsS45 w0 w' g s0_0 r2 r3/\Below w0.heap.size w0 w'/\KeepBut w w' g none:=by
 have HI0:=ak_ hI
 have HK:=ak_ (KeepBut.refl w g none)
 have HL:=ak_ hB.size
 clear hI
 have HW0:=ak_ hB.size
 have HB:=ak_ hB
 clear hB
 have H:((spec_l1Cur_jobs.f k s0_0 s0_1 s0_2).bind fun bt222=>((spec_l1Cur_one.f s0_0 bt222.2.1 bt222.2.2 24).bind fun bt227=>(if bt227.1=true then (some (bt222.1,bt227.2.1,bt227.2.2)) else (spec_l1Cur_plain3.l0 k bt222.1 0 s0_0 bt227.2.1 bt227.2.2))))=some (r1,r2,r3):=h
 clear h
 replace H:=gT H;obtain ⟨⟨t222,t225,t226⟩,A2,H⟩:=H
 try dsimp only at H
 replace H:=gT H;obtain ⟨⟨t227,t228,t229⟩,A3,H⟩:=H
 try dsimp only at H
 replace H:=gPB H;rcases H with ⟨rfl,H⟩ | ⟨rfl,H⟩
 ·simp only [Option.some.injEq,Prod.mk.injEq] at H
  obtain ⟨rfl,rfl,rfl⟩:=H
  go_enter Try.func72,Try.ntmps72
  go_wp2_with (first|((with_reducible refine gate_callee (f:=104) rfl ?_);refine zgo 6 Try.func104 #[.pointer (some ⟨g,0,none⟩)] ?_;(with_reducible refine (spec_l1Cur_jobs.calls k g s0_0 s0_1 s0_2 t222 t225 t226 w0 _ ?side1 ?side2 A2.out).mono ?_);(case side1=>exact zz2);(case side2=>exact zz3);rintro e w5 ⟨v223,rfl,ho0,hi,hb,hk⟩;refine ⟨_,rfl,?_⟩;have HO224:=ak_ (Kd.R_lower ho0 (keep_size (w:=w) (g:=g) (row:=none) zz1));replace HK:=ak_ (KeepBut.trans zz1 hk (.inl rfl));replace HB:=ak_ (hb);replace HI0:=ak_ (hi);(try clear hb);(try clear hk);(try clear hi);(try clear ho0))|((with_reducible refine gate_callee (f:=53) rfl ?_);refine zgo 8 Try.func53 #[.pointer (some ⟨g,0,none⟩),.int .i64 24] ?_;(with_reducible refine (spec_l1Cur_one.calls g s0_0 t225 t226 24 true t228 t229 w0 _ ?side1 ?side2 A3.out).mono ?_);(case side1=>exact zz2);(case side2=>exact zz3);rintro e w6 ⟨rfl,hi,hb,hk⟩;refine ⟨_,rfl,?_⟩;replace HO224:=ak_ (Kd.R_mono (Kd.R_keep (IsS45.apart (show IsS45 w0 _ g s0_0 t225 t226 from by repeat ((with_reducible exact HI0.out))) (zR HO224.out) (by decide)) hk (fun _ h=>h.2)) (fun _ h=>h.1));replace HK:=ak_ (KeepBut.trans zz1 hk (.inl rfl));replace HB:=ak_ (hb);replace HI0:=ak_ (hi);(try clear hb);(try clear hk);(try clear hi)))
  go_ret
  exact ⟨_,zz0,zR HO224.out,zz2,zz3,zz1⟩
 have H':=ak_ H
 clear H
 go_enter Try.func72,Try.ntmps72
 go_wp2_with (first|((with_reducible refine gate_callee (f:=104) rfl ?_);refine zgo 6 Try.func104 #[.pointer (some ⟨g,0,none⟩)] ?_;(with_reducible refine (spec_l1Cur_jobs.calls k g s0_0 s0_1 s0_2 t222 t225 t226 w0 _ ?side1 ?side2 A2.out).mono ?_);(case side1=>exact zz2);(case side2=>exact zz3);rintro e w7 ⟨v223,rfl,ho0,hi,hb,hk⟩;refine ⟨_,rfl,?_⟩;have HO224:=ak_ (Kd.R_lower ho0 (keep_size (w:=w) (g:=g) (row:=none) zz1));replace HK:=ak_ (KeepBut.trans zz1 hk (.inl rfl));replace HB:=ak_ (hb);replace HI0:=ak_ (hi);(try clear hb);(try clear hk);(try clear hi);(try clear ho0))|((with_reducible refine gate_callee (f:=53) rfl ?_);refine zgo 8 Try.func53 #[.pointer (some ⟨g,0,none⟩),.int .i64 24] ?_;(with_reducible refine (spec_l1Cur_one.calls g s0_0 t225 t226 24 false t228 t229 w0 _ ?side1 ?side2 A3.out).mono ?_);(case side1=>exact zz2);(case side2=>exact zz3);rintro e w8 ⟨rfl,hi,hb,hk⟩;refine ⟨_,rfl,?_⟩;replace HO224:=ak_ (Kd.R_mono (Kd.R_keep (IsS45.apart (show IsS45 w0 _ g s0_0 t225 t226 from by repeat ((with_reducible exact HI0.out))) (zR HO224.out) (by decide)) hk (fun _ h=>h.2)) (fun _ h=>h.1));replace HK:=ak_ (KeepBut.trans zz1 hk (.inl rfl));replace HB:=ak_ (hb);replace HI0:=ak_ (hi);(try clear hb);(try clear hk);(try clear hi)))
 go_loopg [4] k (fun kq v4 w'=>∃ (x3_1:List (S31)) (x4_1:Int) (x1001_1:Int) (x1002_1:Int),v4=.int .i64 x4_1/\Aside0 (spec_l1Cur_plain3.l0 kq x3_1 x4_1 s0_0 x1001_1 x1002_1=some (r1,r2,r3))/\Aside0 (kq<=k)/\Aside0 (Kd.R k31 31 w' w.heap.size (fun _=>True) v223 x3_1)/\Aside0 (IsS45 w0 w' g s0_0 x1001_1 x1002_1)/\Aside0 (KeepBut w w' g none)/\Aside0 (Below w0.heap.size w0 w'))
 case atStart=>exact ⟨(t222),(0),(t228),(t229),zo,H',⟨Nat.le_refl _⟩,⟨zR HO224.out⟩,⟨zz2⟩,⟨zz1⟩,⟨zz3⟩⟩
 case round=>
  clear H'
  obtain ⟨x3_1,x4_1,x1001_1,x1002_1,rfl,HA,HK1,HO_3,HI0,HK,HB⟩:=hrel
  cases gk with
  | zero=>exact absurd HA.out (by simp [spec_l1Cur_plain3.l0])
  | succ k1=>
   have H:=HA.out
   clear HA
   simp only [spec_l1Cur_plain3.l0] at H
   replace H:=gND H;rcases H with ⟨c9b0,H⟩ | ⟨c9b0,H⟩
   ·simp only [Option.some.injEq,Prod.mk.injEq] at H
    obtain ⟨rfl,rfl,rfl⟩:=H
    obtain ⟨Ao35,co35,eo35⟩:=Kd.R_slice HO_3.out
    subst eo35
    go_wp2
    go_ret
    exact ⟨_,zz0,zR HO_3.out,zz2,zz3,zz1⟩
   replace H:=gD H;obtain ⟨c10b0,H⟩:=H
   replace H:=gY H;obtain ⟨y230,Ny230,H⟩:=H
   replace H:=gND H;rcases H with ⟨c12b0,H⟩ | ⟨c12b0,H⟩
   ·have H':=ak_ H
    clear H
    obtain ⟨Ao32,co32,eo32⟩:=Kd.R_slice HO_3.out
    subst eo32
    have p11:0<=(x4_1:Int):=oz_
    have q11:(x4_1:Int)<((x3_1.length:Int):Int):=oz_
    obtain ⟨go11,co11,eo11,gb11,gl11,cl11,HG11⟩:=Kd.R_form HO_3.out (by omega)
    (cases eo11)
    have GB11:=ak_ gb11
    have GG11:=ak_ HG11
    clear gb11 gl11 HG11
    obtain ⟨ce11,hcl11,hM11,hcc11,hfr11⟩:=Kd.R_elem HO_3.out z31 (x4_1:Int) p11 q11
    obtain rfl:=k31_openM hM11
    have hx11_0:wr.cell? ⟨go11,(x4_1:Int).toNat * 4,none⟩=some (.int .i64 ((rd_T31 x3_1 x4_1).f0)):=hcc11 0 _ rfl
    have hx11_1:wr.cell? ⟨go11,(x4_1:Int).toNat * 4 + 1,none⟩=some (.int .i64 ((rd_T31 x3_1 x4_1).f1)):=hcc11 1 _ rfl
    have hx11_2:wr.cell? ⟨go11,(x4_1:Int).toNat * 4 + 2,none⟩=some (.int .i64 ((rd_T31 x3_1 x4_1).f2)):=hcc11 2 _ rfl
    have hx11_3:wr.cell? ⟨go11,(x4_1:Int).toNat * 4 + 3,none⟩=some (.int .i64 ((rd_T31 x3_1 x4_1).f3)):=hcc11 3 _ rfl
    have hf11_0:wr.frozen? ⟨go11,(x4_1:Int).toNat * 4,none⟩=false:=hfr11 0
    have hf11_1:wr.frozen? ⟨go11,(x4_1:Int).toNat * 4 + 1,none⟩=false:=hfr11 1
    have hf11_2:wr.frozen? ⟨go11,(x4_1:Int).toNat * 4 + 2,none⟩=false:=hfr11 2
    have hf11_3:wr.frozen? ⟨go11,(x4_1:Int).toNat * 4 + 3,none⟩=false:=hfr11 3
    (clear hcl11 hcc11 hfr11;(try clear hM11))
    replace p11:=eq_true p11
    replace q11:=eq_true q11
    have HX33:=ak_ (show Kd.R k31 31 wr w.heap.size (fun _=>True) (.slice (some ⟨go11,0,none⟩) x3_1.length co32) x3_1 from (zR HO_3.out))
    obtain ⟨ce33,hcl33,hM33,hcc33,hfr33⟩:=Kd.R_elem HX33.out z31 (x4_1:Int) (oz_) (by have h_:(x4_1:Int)<((x3_1.length:Int):Int):=oz_;exact h_)
    obtain rfl:=k31_openM hM33
    have HP33:=Kd.R_seg HX33.out (x4_1:Int) (oz_) (by have h_:(x4_1:Int)<((x3_1.length:Int):Int):=oz_;exact h_) (seg:=[.int .i64 0]) (j:=2) hcl33 hcc33 (show 3<=4 from by decide) (x':=(⟨(rd_T31 x3_1 x4_1).f0,(rd_T31 x3_1 x4_1).f1,0,(rd_T31 x3_1 x4_1).f3⟩:S31)) (k31_mkM _ _ _ (⟨(rd_T31 x3_1 x4_1).f0,(rd_T31 x3_1 x4_1).f1,0,(rd_T31 x3_1 x4_1).f3⟩:S31)) (fun _ hk=>hk)
    have hx33_2:=hcc33 2 _ rfl
    (try simp only [show (k31).sz=4 from rfl,Nat.mul_one,Nat.add_zero] at hx33_2)
    have hf33_2:=hfr33 2
    (try simp only [show (k31).sz=4 from rfl,Nat.mul_one,Nat.add_zero] at hf33_2)
    (clear hcl33 hcc33 hfr33;(try clear hM33))
    go_wp2_with (((with_reducible refine gate_store (t:=3) (p:=19) rfl ?_);refine store_event (t:=3) (p:=19) (v:=?vo_w34) (w1:=(wr.setCell ⟨go11,(x4_1:Int).toNat * 4 + 2,none⟩ (.int .i64 0))) ?hg ?ho ?hn ?hr ?_;(case ho=>rfl);(case hg=>rfl);(case hn=>rfl);(case hr=>(go_simp;done));intro w34 hw;have hg:wr.grownBy w34 (some go11):=(by rw [hw];exact HP33.2);have hp_:Kd.R k31 31 w34 w.heap.size (fun _=>True) (.slice (some ⟨go11,0,none⟩) x3_1.length co32) y230:=(by rw [hw,Ny230.out];exact HP33.1);clear HP33;replace HI0:=ak_ (IsS45.grown zz2 hg (IsS45.own_ne HI0.out HO_3.out (by decide)));replace HB:=ak_ ((by rw [hw];exact below_set (HB.out) (Nat.le_trans HL.out GB11.out):Below w0.heap.size w0 w34));replace HK:=ak_ (KeepBut.trans zz1 (KeepBut.of_grown hg g) (Kd.R_base2 HO_3.out));replace HO_3:=ak_ (hp_);clear hg hw hp_))
    go_roundg k1
    case measure=>have:=HK1.out;omega
    case rel=>exact ⟨(y230),(wrap64 (x4_1 + 1)),(x1001_1),(x1002_1),zo,H',⟨by have:=HK1.out;omega⟩,⟨zR HO_3.out⟩,⟨zz2⟩,⟨zz1⟩,⟨zz3⟩⟩
   replace H:=gT H;obtain ⟨⟨t231,t232,t233⟩,A13,H⟩:=H
   try dsimp only at H
   replace H:=gNB H;rcases H with ⟨rfl,H⟩ | ⟨rfl,H⟩
   ·have H':=ak_ H
    clear H
    obtain ⟨Ao28,co28,eo28⟩:=Kd.R_slice HO_3.out
    subst eo28
    have p11:0<=(x4_1:Int):=oz_
    have q11:(x4_1:Int)<((x3_1.length:Int):Int):=oz_
    obtain ⟨go11,co11,eo11,gb11,gl11,cl11,HG11⟩:=Kd.R_form HO_3.out (by omega)
    (cases eo11)
    have GB11:=ak_ gb11
    have GG11:=ak_ HG11
    clear gb11 gl11 HG11
    obtain ⟨ce11,hcl11,hM11,hcc11,hfr11⟩:=Kd.R_elem HO_3.out z31 (x4_1:Int) p11 q11
    obtain rfl:=k31_openM hM11
    have hx11_0:wr.cell? ⟨go11,(x4_1:Int).toNat * 4,none⟩=some (.int .i64 ((rd_T31 x3_1 x4_1).f0)):=hcc11 0 _ rfl
    have hx11_1:wr.cell? ⟨go11,(x4_1:Int).toNat * 4 + 1,none⟩=some (.int .i64 ((rd_T31 x3_1 x4_1).f1)):=hcc11 1 _ rfl
    have hx11_2:wr.cell? ⟨go11,(x4_1:Int).toNat * 4 + 2,none⟩=some (.int .i64 ((rd_T31 x3_1 x4_1).f2)):=hcc11 2 _ rfl
    have hx11_3:wr.cell? ⟨go11,(x4_1:Int).toNat * 4 + 3,none⟩=some (.int .i64 ((rd_T31 x3_1 x4_1).f3)):=hcc11 3 _ rfl
    have hf11_0:wr.frozen? ⟨go11,(x4_1:Int).toNat * 4,none⟩=false:=hfr11 0
    have hf11_1:wr.frozen? ⟨go11,(x4_1:Int).toNat * 4 + 1,none⟩=false:=hfr11 1
    have hf11_2:wr.frozen? ⟨go11,(x4_1:Int).toNat * 4 + 2,none⟩=false:=hfr11 2
    have hf11_3:wr.frozen? ⟨go11,(x4_1:Int).toNat * 4 + 3,none⟩=false:=hfr11 3
    (clear hcl11 hcc11 hfr11;(try clear hM11))
    replace p11:=eq_true p11
    replace q11:=eq_true q11
    have HX29:=ak_ (show Kd.R k31 31 wr w.heap.size (fun _=>True) (.slice (some ⟨go11,0,none⟩) x3_1.length co28) x3_1 from (zR HO_3.out))
    obtain ⟨ce29,hcl29,hM29,hcc29,hfr29⟩:=Kd.R_elem HX29.out z31 (x4_1:Int) (oz_) (by have h_:(x4_1:Int)<((x3_1.length:Int):Int):=oz_;exact h_)
    obtain rfl:=k31_openM hM29
    have HP29:=Kd.R_seg HX29.out (x4_1:Int) (oz_) (by have h_:(x4_1:Int)<((x3_1.length:Int):Int):=oz_;exact h_) (seg:=[.int .i64 0]) (j:=2) hcl29 hcc29 (show 3<=4 from by decide) (x':=(⟨(rd_T31 x3_1 x4_1).f0,(rd_T31 x3_1 x4_1).f1,0,(rd_T31 x3_1 x4_1).f3⟩:S31)) (k31_mkM _ _ _ (⟨(rd_T31 x3_1 x4_1).f0,(rd_T31 x3_1 x4_1).f1,0,(rd_T31 x3_1 x4_1).f3⟩:S31)) (fun _ hk=>hk)
    have hx29_2:=hcc29 2 _ rfl
    (try simp only [show (k31).sz=4 from rfl,Nat.mul_one,Nat.add_zero] at hx29_2)
    have hf29_2:=hfr29 2
    (try simp only [show (k31).sz=4 from rfl,Nat.mul_one,Nat.add_zero] at hf29_2)
    (clear hcl29 hcc29 hfr29;(try clear hM29))
    go_wp2_with (first|((with_reducible refine gate_store (t:=3) (p:=19) rfl ?_);refine store_event (t:=3) (p:=19) (v:=?vo_w30) (w1:=(wr.setCell ⟨go11,(x4_1:Int).toNat * 4 + 2,none⟩ (.int .i64 0))) ?hg ?ho ?hn ?hr ?_;(case ho=>rfl);(case hg=>rfl);(case hn=>rfl);(case hr=>(go_simp;done));intro w30 hw;have hg:wr.grownBy w30 (some go11):=(by rw [hw];exact HP29.2);have hp_:Kd.R k31 31 w30 w.heap.size (fun _=>True) (.slice (some ⟨go11,0,none⟩) x3_1.length co28) y230:=(by rw [hw,Ny230.out];exact HP29.1);clear HP29;replace HI0:=ak_ (IsS45.grown zz2 hg (IsS45.own_ne HI0.out HO_3.out (by decide)));replace HB:=ak_ ((by rw [hw];exact below_set (HB.out) (Nat.le_trans HL.out GB11.out):Below w0.heap.size w0 w30));replace HK:=ak_ (KeepBut.trans zz1 (KeepBut.of_grown hg g) (Kd.R_base2 HO_3.out));replace HO_3:=ak_ (hp_);clear hg hw hp_)|(go_at_call 53;(with_reducible refine (spec_l1Cur_one.calls g s0_0 x1001_1 x1002_1 3 false t232 t233 w0 _ ?side1 ?side2 A13.out).mono ?_);(case side1=>exact zz2);(case side2=>exact zz3);rintro e w31 ⟨rfl,hi,hb,hk⟩;replace HO_3:=ak_ (Kd.R_mono (Kd.R_keep (IsS45.apart (show IsS45 w0 _ g s0_0 x1001_1 x1002_1 from by repeat ((with_reducible exact HI0.out))) (zR HO_3.out) (by decide)) hk (fun _ h=>h.2)) (fun _ h=>h.1));replace HK:=ak_ (KeepBut.trans zz1 hk (.inl rfl));replace HB:=ak_ (hb);replace HI0:=ak_ (hi);(try clear hb);(try clear hk);(try clear hi)))
    go_roundg k1
    case measure=>have:=HK1.out;omega
    case rel=>exact ⟨(y230),(wrap64 (x4_1 + 1)),(t232),(t233),zo,H',⟨by have:=HK1.out;omega⟩,⟨zR HO_3.out⟩,⟨zz2⟩,⟨zz1⟩,⟨zz3⟩⟩
   obtain ⟨ji15,hji15⟩:∃ j_:Int,(wrap64 (x4_1 - 1))=j_:=⟨_,rfl⟩
   replace H:(if 0<=(ji15) then (if (ji15)<(x3_1.length:Int) then ((some (y230.set (x4_1:Int).toNat (⟨(rd_T31 y230 (ji15)).f0,(rd_T31 y230 x4_1).f1,(rd_T31 y230 x4_1).f2,(rd_T31 y230 x4_1).f3⟩:S31):List (S31))).bind fun y235=>(spec_l1Cur_plain3.l0 k1 (y235.set (x4_1:Int).toNat (⟨(rd_T31 y235 x4_1).f0,(rd_T31 y235 (ji15)).f1,(rd_T31 y235 x4_1).f2,(rd_T31 y235 x4_1).f3⟩:S31)) (wrap64 (x4_1 + 1)) s0_0 t232 t233)) else (none)) else (none))=some (r1,r2,r3):=by (rw [hji15] at H;exact H)
   have hji15w:(IntKind.i64.wrap (x4_1 - 1))=ji15:=(i64_w _).trans hji15
   replace H:=gD H;obtain ⟨c16b0,H⟩:=H
   replace H:=gD H;obtain ⟨c17b0,H⟩:=H
   replace H:=gY H;obtain ⟨y235,Ny235,H⟩:=H
   generalize hy237:(y235.set (x4_1:Int).toNat (⟨(rd_T31 y235 x4_1).f0,(rd_T31 y235 (ji15)).f1,(rd_T31 y235 x4_1).f2,(rd_T31 y235 x4_1).f3⟩:S31):List (S31))=y237 at H
   have Ny237:=ak_ hy237.symm
   clear hy237
   have H':=ak_ H
   clear H
   obtain ⟨Ao20,co20,eo20⟩:=Kd.R_slice HO_3.out
   subst eo20
   have p11:0<=(x4_1:Int):=oz_
   have q11:(x4_1:Int)<((x3_1.length:Int):Int):=oz_
   obtain ⟨go11,co11,eo11,gb11,gl11,cl11,HG11⟩:=Kd.R_form HO_3.out (by omega)
   (cases eo11)
   have GB11:=ak_ gb11
   have GG11:=ak_ HG11
   clear gb11 gl11 HG11
   obtain ⟨ce11,hcl11,hM11,hcc11,hfr11⟩:=Kd.R_elem HO_3.out z31 (x4_1:Int) p11 q11
   obtain rfl:=k31_openM hM11
   have hx11_0:wr.cell? ⟨go11,(x4_1:Int).toNat * 4,none⟩=some (.int .i64 ((rd_T31 x3_1 x4_1).f0)):=hcc11 0 _ rfl
   have hx11_1:wr.cell? ⟨go11,(x4_1:Int).toNat * 4 + 1,none⟩=some (.int .i64 ((rd_T31 x3_1 x4_1).f1)):=hcc11 1 _ rfl
   have hx11_2:wr.cell? ⟨go11,(x4_1:Int).toNat * 4 + 2,none⟩=some (.int .i64 ((rd_T31 x3_1 x4_1).f2)):=hcc11 2 _ rfl
   have hx11_3:wr.cell? ⟨go11,(x4_1:Int).toNat * 4 + 3,none⟩=some (.int .i64 ((rd_T31 x3_1 x4_1).f3)):=hcc11 3 _ rfl
   have hf11_0:wr.frozen? ⟨go11,(x4_1:Int).toNat * 4,none⟩=false:=hfr11 0
   have hf11_1:wr.frozen? ⟨go11,(x4_1:Int).toNat * 4 + 1,none⟩=false:=hfr11 1
   have hf11_2:wr.frozen? ⟨go11,(x4_1:Int).toNat * 4 + 2,none⟩=false:=hfr11 2
   have hf11_3:wr.frozen? ⟨go11,(x4_1:Int).toNat * 4 + 3,none⟩=false:=hfr11 3
   (clear hcl11 hcc11 hfr11;(try clear hM11))
   replace p11:=eq_true p11
   replace q11:=eq_true q11
   have HX21:=ak_ (show Kd.R k31 31 wr w.heap.size (fun _=>True) (.slice (some ⟨go11,0,none⟩) x3_1.length co20) x3_1 from (zR HO_3.out))
   obtain ⟨ce21,hcl21,hM21,hcc21,hfr21⟩:=Kd.R_elem HX21.out z31 (x4_1:Int) (oz_) (by have h_:(x4_1:Int)<((x3_1.length:Int):Int):=oz_;exact h_)
   obtain rfl:=k31_openM hM21
   have HP21:=Kd.R_seg HX21.out (x4_1:Int) (oz_) (by have h_:(x4_1:Int)<((x3_1.length:Int):Int):=oz_;exact h_) (seg:=[.int .i64 0]) (j:=2) hcl21 hcc21 (show 3<=4 from by decide) (x':=(⟨(rd_T31 x3_1 x4_1).f0,(rd_T31 x3_1 x4_1).f1,0,(rd_T31 x3_1 x4_1).f3⟩:S31)) (k31_mkM _ _ _ (⟨(rd_T31 x3_1 x4_1).f0,(rd_T31 x3_1 x4_1).f1,0,(rd_T31 x3_1 x4_1).f3⟩:S31)) (fun _ hk=>hk)
   have hx21_2:=hcc21 2 _ rfl
   (try simp only [show (k31).sz=4 from rfl,Nat.mul_one,Nat.add_zero] at hx21_2)
   have hf21_2:=hfr21 2
   (try simp only [show (k31).sz=4 from rfl,Nat.mul_one,Nat.add_zero] at hf21_2)
   (clear hcl21 hcc21 hfr21;(try clear hM21))
   go_wp2_with (first|((with_reducible refine gate_store (t:=3) (p:=19) rfl ?_);refine store_event (t:=3) (p:=19) (v:=?vo_w22) (w1:=(wr.setCell ⟨go11,(x4_1:Int).toNat * 4 + 2,none⟩ (.int .i64 0))) ?hg ?ho ?hn ?hr ?_;(case ho=>rfl);(case hg=>rfl);(case hn=>rfl);(case hr=>(go_simp;done));intro w22 hw;have hg:wr.grownBy w22 (some go11):=(by rw [hw];exact HP21.2);have hp_:Kd.R k31 31 w22 w.heap.size (fun _=>True) (.slice (some ⟨go11,0,none⟩) x3_1.length co20) y230:=(by rw [hw,Ny230.out];exact HP21.1);clear HP21;replace HI0:=ak_ (IsS45.grown zz2 hg (IsS45.own_ne HI0.out HO_3.out (by decide)));replace HB:=ak_ ((by rw [hw];exact below_set (HB.out) (Nat.le_trans HL.out GB11.out):Below w0.heap.size w0 w22));replace HK:=ak_ (KeepBut.trans zz1 (KeepBut.of_grown hg g) (Kd.R_base2 HO_3.out));replace HO_3:=ak_ (hp_);clear hg hw hp_)|(go_at_call 53;(with_reducible refine (spec_l1Cur_one.calls g s0_0 x1001_1 x1002_1 3 true t232 t233 w0 _ ?side1 ?side2 A13.out).mono ?_);(case side1=>exact zz2);(case side2=>exact zz3);rintro e w23 ⟨rfl,hi,hb,hk⟩;replace HO_3:=ak_ (Kd.R_mono (Kd.R_keep (IsS45.apart (show IsS45 w0 _ g s0_0 x1001_1 x1002_1 from by repeat ((with_reducible exact HI0.out))) (zR HO_3.out) (by decide)) hk (fun _ h=>h.2)) (fun _ h=>h.1));replace HK:=ak_ (KeepBut.trans zz1 hk (.inl rfl));replace HB:=ak_ (hb);replace HI0:=ak_ (hi);(try clear hb);(try clear hk);(try clear hi);have p234:0<=((ji15):Int):=oz_;have q234:(ji15)<(y230.length:Int):=(by have h_:((ji15):Int)<((x3_1.length:Int):Int):=oz_;(have e_:=(Kd.R_reads' HO_3.out).1;omega));have ql234:(((ji15):Int)<((x3_1.length:Int):Int))=True:=eq_true (oz_);obtain ⟨ad234,e234,hx234_0,hx234_1,hx234_2,hx234_3⟩:=at_T31 (Kd.R_reads' HO_3.out).2.2 (ji15) p234 q234;obtain rfl:(⟨go11,0,none⟩:Addr)=ad234:=(by injection e234);(simp only [add_plain] at hx234_0);(simp only [add_plain] at hx234_1);(simp only [add_plain] at hx234_2);(simp only [add_plain] at hx234_3);replace p234:=eq_true p234;replace q234:=eq_true q234;have p18:0<=(x4_1:Int):=oz_;have q18:(x4_1:Int)<((x3_1.length:Int):Int):=oz_;obtain ⟨ce18,hcl18,hM18,hcc18,hfr18⟩:=Kd.R_elem HO_3.out z31 (x4_1:Int) p18 q18;obtain rfl:=k31_openM hM18;have hx18_0:w23.cell? ⟨go11,(x4_1:Int).toNat * 4,none⟩=some (.int .i64 ((rd_T31 y230 x4_1).f0)):=hcc18 0 _ rfl;have hx18_1:w23.cell? ⟨go11,(x4_1:Int).toNat * 4 + 1,none⟩=some (.int .i64 ((rd_T31 y230 x4_1).f1)):=hcc18 1 _ rfl;have hx18_2:w23.cell? ⟨go11,(x4_1:Int).toNat * 4 + 2,none⟩=some (.int .i64 ((rd_T31 y230 x4_1).f2)):=hcc18 2 _ rfl;have hx18_3:w23.cell? ⟨go11,(x4_1:Int).toNat * 4 + 3,none⟩=some (.int .i64 ((rd_T31 y230 x4_1).f3)):=hcc18 3 _ rfl;have hf18_0:w23.frozen? ⟨go11,(x4_1:Int).toNat * 4,none⟩=false:=hfr18 0;have hf18_1:w23.frozen? ⟨go11,(x4_1:Int).toNat * 4 + 1,none⟩=false:=hfr18 1;have hf18_2:w23.frozen? ⟨go11,(x4_1:Int).toNat * 4 + 2,none⟩=false:=hfr18 2;have hf18_3:w23.frozen? ⟨go11,(x4_1:Int).toNat * 4 + 3,none⟩=false:=hfr18 3;(clear hcl18 hcc18 hfr18;(try clear hM18));replace p18:=eq_true p18;replace q18:=eq_true q18;have HX24:=ak_ (show Kd.R k31 31 w23 w.heap.size (fun _=>True) (.slice (some ⟨go11,0,none⟩) x3_1.length co20) y230 from (zR HO_3.out));obtain ⟨ce24,hcl24,hM24,hcc24,hfr24⟩:=Kd.R_elem HX24.out z31 (x4_1:Int) (oz_) (by have h_:(x4_1:Int)<((x3_1.length:Int):Int):=oz_;exact h_);obtain rfl:=k31_openM hM24;have HP24:=Kd.R_seg HX24.out (x4_1:Int) (oz_) (by have h_:(x4_1:Int)<((x3_1.length:Int):Int):=oz_;exact h_) (seg:=[.int .i64 ((rd_T31 y230 (ji15)).f0)]) (j:=0) hcl24 hcc24 (show 1<=4 from by decide) (x':=(⟨(rd_T31 y230 (ji15)).f0,(rd_T31 y230 x4_1).f1,(rd_T31 y230 x4_1).f2,(rd_T31 y230 x4_1).f3⟩:S31)) (k31_mkM _ _ _ (⟨(rd_T31 y230 (ji15)).f0,(rd_T31 y230 x4_1).f1,(rd_T31 y230 x4_1).f2,(rd_T31 y230 x4_1).f3⟩:S31)) (fun _ hk=>hk);have hx24_0:=hcc24 0 _ rfl;(try simp only [show (k31).sz=4 from rfl,Nat.mul_one,Nat.add_zero] at hx24_0);have hf24_0:=hfr24 0;(try simp only [show (k31).sz=4 from rfl,Nat.mul_one,Nat.add_zero] at hf24_0);(clear hcl24 hcc24 hfr24;(try clear hM24)))|((with_reducible refine gate_store (t:=3) (p:=35) rfl ?_);refine store_event (t:=3) (p:=35) (v:=?vo_w25) (w1:=(w23.setCell ⟨go11,(x4_1:Int).toNat * 4,none⟩ (.int .i64 ((rd_T31 y230 (ji15)).f0)))) ?hg ?ho ?hn ?hr ?_;(case ho=>rfl);(case hg=>rfl);(case hn=>rfl);(case hr=>(go_simp;done));intro w25 hw;have hg:w23.grownBy w25 (some go11):=(by rw [hw];exact HP24.2);have hp_:Kd.R k31 31 w25 w.heap.size (fun _=>True) (.slice (some ⟨go11,0,none⟩) x3_1.length co20) y235:=(by rw [hw,Ny235.out];exact HP24.1);clear HP24;replace HI0:=ak_ (IsS45.grown zz2 hg (IsS45.own_ne HI0.out HO_3.out (by decide)));replace HB:=ak_ ((by rw [hw];exact below_set (HB.out) (Nat.le_trans HL.out GB11.out):Below w0.heap.size w0 w25));replace HK:=ak_ (KeepBut.trans zz1 (KeepBut.of_grown hg g) (Kd.R_base2 HO_3.out));replace HO_3:=ak_ (hp_);clear hg hw hp_;have p236:0<=((ji15):Int):=oz_;have q236:(ji15)<(y235.length:Int):=(by have h_:((ji15):Int)<((x3_1.length:Int):Int):=oz_;(have e_:=(Kd.R_reads' HO_3.out).1;omega));have ql236:(((ji15):Int)<((x3_1.length:Int):Int))=True:=eq_true (oz_);obtain ⟨ad236,e236,hx236_0,hx236_1,hx236_2,hx236_3⟩:=at_T31 (Kd.R_reads' HO_3.out).2.2 (ji15) p236 q236;obtain rfl:(⟨go11,0,none⟩:Addr)=ad236:=(by injection e236);(simp only [add_plain] at hx236_0);(simp only [add_plain] at hx236_1);(simp only [add_plain] at hx236_2);(simp only [add_plain] at hx236_3);replace p236:=eq_true p236;replace q236:=eq_true q236;have p19:0<=(x4_1:Int):=oz_;have q19:(x4_1:Int)<((x3_1.length:Int):Int):=oz_;obtain ⟨ce19,hcl19,hM19,hcc19,hfr19⟩:=Kd.R_elem HO_3.out z31 (x4_1:Int) p19 q19;obtain rfl:=k31_openM hM19;have hx19_0:w25.cell? ⟨go11,(x4_1:Int).toNat * 4,none⟩=some (.int .i64 ((rd_T31 y235 x4_1).f0)):=hcc19 0 _ rfl;have hx19_1:w25.cell? ⟨go11,(x4_1:Int).toNat * 4 + 1,none⟩=some (.int .i64 ((rd_T31 y235 x4_1).f1)):=hcc19 1 _ rfl;have hx19_2:w25.cell? ⟨go11,(x4_1:Int).toNat * 4 + 2,none⟩=some (.int .i64 ((rd_T31 y235 x4_1).f2)):=hcc19 2 _ rfl;have hx19_3:w25.cell? ⟨go11,(x4_1:Int).toNat * 4 + 3,none⟩=some (.int .i64 ((rd_T31 y235 x4_1).f3)):=hcc19 3 _ rfl;have hf19_0:w25.frozen? ⟨go11,(x4_1:Int).toNat * 4,none⟩=false:=hfr19 0;have hf19_1:w25.frozen? ⟨go11,(x4_1:Int).toNat * 4 + 1,none⟩=false:=hfr19 1;have hf19_2:w25.frozen? ⟨go11,(x4_1:Int).toNat * 4 + 2,none⟩=false:=hfr19 2;have hf19_3:w25.frozen? ⟨go11,(x4_1:Int).toNat * 4 + 3,none⟩=false:=hfr19 3;(clear hcl19 hcc19 hfr19;(try clear hM19));replace p19:=eq_true p19;replace q19:=eq_true q19;have HX26:=ak_ (show Kd.R k31 31 w25 w.heap.size (fun _=>True) (.slice (some ⟨go11,0,none⟩) x3_1.length co20) y235 from (zR HO_3.out));obtain ⟨ce26,hcl26,hM26,hcc26,hfr26⟩:=Kd.R_elem HX26.out z31 (x4_1:Int) (oz_) (by have h_:(x4_1:Int)<((x3_1.length:Int):Int):=oz_;exact h_);obtain rfl:=k31_openM hM26;have HP26:=Kd.R_seg HX26.out (x4_1:Int) (oz_) (by have h_:(x4_1:Int)<((x3_1.length:Int):Int):=oz_;exact h_) (seg:=[.int .i64 ((rd_T31 y235 (ji15)).f1)]) (j:=1) hcl26 hcc26 (show 2<=4 from by decide) (x':=(⟨(rd_T31 y235 x4_1).f0,(rd_T31 y235 (ji15)).f1,(rd_T31 y235 x4_1).f2,(rd_T31 y235 x4_1).f3⟩:S31)) (k31_mkM _ _ _ (⟨(rd_T31 y235 x4_1).f0,(rd_T31 y235 (ji15)).f1,(rd_T31 y235 x4_1).f2,(rd_T31 y235 x4_1).f3⟩:S31)) (fun _ hk=>hk);have hx26_1:=hcc26 1 _ rfl;(try simp only [show (k31).sz=4 from rfl,Nat.mul_one,Nat.add_zero] at hx26_1);have hf26_1:=hfr26 1;(try simp only [show (k31).sz=4 from rfl,Nat.mul_one,Nat.add_zero] at hf26_1);(clear hcl26 hcc26 hfr26;(try clear hM26)))|((with_reducible refine gate_store (t:=3) (p:=45) rfl ?_);refine store_event (t:=3) (p:=45) (v:=?vo_w27) (w1:=(w25.setCell ⟨go11,(x4_1:Int).toNat * 4 + 1,none⟩ (.int .i64 ((rd_T31 y235 (ji15)).f1)))) ?hg ?ho ?hn ?hr ?_;(case ho=>rfl);(case hg=>rfl);(case hn=>rfl);(case hr=>(go_simp;done));intro w27 hw;have hg:w25.grownBy w27 (some go11):=(by rw [hw];exact HP26.2);have hp_:Kd.R k31 31 w27 w.heap.size (fun _=>True) (.slice (some ⟨go11,0,none⟩) x3_1.length co20) y237:=(by rw [hw,Ny237.out];exact HP26.1);clear HP26;replace HI0:=ak_ (IsS45.grown zz2 hg (IsS45.own_ne HI0.out HO_3.out (by decide)));replace HB:=ak_ ((by rw [hw];exact below_set (HB.out) (Nat.le_trans HL.out GB11.out):Below w0.heap.size w0 w27));replace HK:=ak_ (KeepBut.trans zz1 (KeepBut.of_grown hg g) (Kd.R_base2 HO_3.out));replace HO_3:=ak_ (hp_);clear hg hw hp_))
   go_roundg k1
   case measure=>have:=HK1.out;omega
   case rel=>exact ⟨(y237),(wrap64 (x4_1 + 1)),(t232),(t233),zo,H',⟨by have:=HK1.out;omega⟩,⟨zR HO_3.out⟩,⟨zz2⟩,⟨zz1⟩,⟨zz3⟩⟩
def spec_l1Cur_work7.l0:Nat->List (S31)->Int->List Int->Int->Int->Option ((List (S31)) × Int × Int)
 | 0,_,_,_,_,_=>none
 | k + 1,x3,x4,x1000,x1001,x1002=>if x4<(x3.length:Int) then ((spec_l1Cur_one.f x1000 x1001 x1002 4).bind fun bt243=>(if bt243.1=true then (some (x3,bt243.2.1,bt243.2.2)) else ((spec_l1Cur_among.f x1000 bt243.2.1 bt243.2.2 (([1,1,2,3,4,7]:List Int))).bind fun bt249=>(if 0<=x4 then (spec_l1Cur_work7.l0 k (x3.set (x4:Int).toNat (⟨bt249.1,(rd_T31 x3 x4).f1,(rd_T31 x3 x4).f2,(rd_T31 x3 x4).f3⟩:S31)) (wrap64 (x4 + 1)) x1000 bt249.2.1 bt249.2.2) else (none))))) else (some (x3,x1001,x1002))
def spec_l1Cur_work7.f (k:Nat) (s0_0:List Int) (s0_1:Int) (s0_2:Int):Option ((List (S31)) × Int × Int):=(spec_l1Cur_plain3.f k s0_0 s0_1 s0_2).bind fun bt238=>(spec_l1Cur_work7.l0 k bt238.1 0 s0_0 bt238.2.1 bt238.2.2)
theorem spec_l1Cur_work7.calls (k:Nat) (g:Nat) (s0_0:List Int) (s0_1:Int) (s0_2:Int) (r1:List (S31)) (r2:Int) (r3:Int) (w0 w:World) (hI:IsS45 w0 w g s0_0 s0_1 s0_2) (hB:Below w0.heap.size w0 w) (h:spec_l1Cur_work7.f k s0_0 s0_1 s0_2=some (r1,r2,r3)) :
  Calls Try.prog 33 #[.pointer (some ⟨g,0,none⟩)] w fun e w'=>∃ v0_:Value,e=.returned (v0_)/\Kd.R k31 31 w' w.heap.size (fun _=>True) v0_ r1/\IsS45 w0 w' g s0_0 r2 r3/\Below w0.heap.size w0 w'/\KeepBut w w' g none:=by
 have HI0:=ak_ hI
 have HK:=ak_ (KeepBut.refl w g none)
 have HL:=ak_ hB.size
 clear hI
 have HW0:=ak_ hB.size
 have HB:=ak_ hB
 clear hB
 have H:((spec_l1Cur_plain3.f k s0_0 s0_1 s0_2).bind fun bt238=>(spec_l1Cur_work7.l0 k bt238.1 0 s0_0 bt238.2.1 bt238.2.2))=some (r1,r2,r3):=h
 clear h
 replace H:=gT H;obtain ⟨⟨t238,t241,t242⟩,A2,H⟩:=H
 try dsimp only at H
 have H':=ak_ H
 clear H
 go_enter Try.func33,Try.ntmps33
 go_wp2_with (((with_reducible refine gate_callee (f:=72) rfl ?_);refine zgo 6 Try.func72 #[.pointer (some ⟨g,0,none⟩)] ?_;(with_reducible refine (spec_l1Cur_plain3.calls k g s0_0 s0_1 s0_2 t238 t241 t242 w0 _ ?side1 ?side2 A2.out).mono ?_);(case side1=>exact zz2);(case side2=>exact zz3);rintro e w3 ⟨v239,rfl,ho0,hi,hb,hk⟩;refine ⟨_,rfl,?_⟩;have HO240:=ak_ (Kd.R_lower ho0 (keep_size (w:=w) (g:=g) (row:=none) zz1));replace HK:=ak_ (KeepBut.trans zz1 hk (.inl rfl));replace HB:=ak_ (hb);replace HI0:=ak_ (hi);(try clear hb);(try clear hk);(try clear hi);(try clear ho0)))
 go_loopg [4] k (fun kq v4 w'=>∃ (x3_1:List (S31)) (x4_1:Int) (x1001_1:Int) (x1002_1:Int),v4=.int .i64 x4_1/\Aside0 (spec_l1Cur_work7.l0 kq x3_1 x4_1 s0_0 x1001_1 x1002_1=some (r1,r2,r3))/\Aside0 (kq<=k)/\Aside0 (Kd.R k31 31 w' w.heap.size (fun _=>True) v239 x3_1)/\Aside0 (IsS45 w0 w' g s0_0 x1001_1 x1002_1)/\Aside0 (KeepBut w w' g none)/\Aside0 (Below w0.heap.size w0 w'))
 case atStart=>exact ⟨(t238),(0),(t241),(t242),zo,H',⟨Nat.le_refl _⟩,⟨zR HO240.out⟩,⟨zz2⟩,⟨zz1⟩,⟨zz3⟩⟩
 case round=>
  clear H'
  obtain ⟨x3_1,x4_1,x1001_1,x1002_1,rfl,HA,HK1,HO_3,HI0,HK,HB⟩:=hrel
  cases gk with
  | zero=>exact absurd HA.out (by simp [spec_l1Cur_work7.l0])
  | succ k1=>
   have H:=HA.out
   clear HA
   simp only [spec_l1Cur_work7.l0] at H
   replace H:=gND H;rcases H with ⟨c4b0,H⟩ | ⟨c4b0,H⟩
   ·simp only [Option.some.injEq,Prod.mk.injEq] at H
    obtain ⟨rfl,rfl,rfl⟩:=H
    obtain ⟨Ao20,co20,eo20⟩:=Kd.R_slice HO_3.out
    subst eo20
    go_wp2
    go_ret
    exact ⟨_,zz0,zR HO_3.out,zz2,zz3,zz1⟩
   replace H:=gT H;obtain ⟨⟨t243,t244,t245⟩,A5,H⟩:=H
   try dsimp only at H
   replace H:=gPB H;rcases H with ⟨rfl,H⟩ | ⟨rfl,H⟩
   ·simp only [Option.some.injEq,Prod.mk.injEq] at H
    obtain ⟨rfl,rfl,rfl⟩:=H
    obtain ⟨Ao7,co7,eo7⟩:=Kd.R_slice HO_3.out
    subst eo7
    go_wp2_with ((go_at_call 53;(with_reducible refine (spec_l1Cur_one.calls g s0_0 x1001_1 x1002_1 4 true t244 t245 w0 _ ?side1 ?side2 A5.out).mono ?_);(case side1=>exact zz2);(case side2=>exact zz3);rintro e w8 ⟨rfl,hi,hb,hk⟩;replace HO_3:=ak_ (Kd.R_mono (Kd.R_keep (IsS45.apart (show IsS45 w0 _ g s0_0 x1001_1 x1002_1 from by repeat ((with_reducible exact HI0.out))) (zR HO_3.out) (by decide)) hk (fun _ h=>h.2)) (fun _ h=>h.1));replace HK:=ak_ (KeepBut.trans zz1 hk (.inl rfl));replace HB:=ak_ (hb);replace HI0:=ak_ (hi);(try clear hb);(try clear hk);(try clear hi)))
    go_ret
    exact ⟨_,zz0,zR HO_3.out,zz2,zz3,zz1⟩
   generalize hy246:(([1,1,2,3,4,7]:List Int):List Int)=y246 at H
   have Ny246:=ak_ hy246.symm
   clear hy246
   replace H:=gT H;obtain ⟨⟨t249,t250,t251⟩,A9,H⟩:=H
   try dsimp only at H
   replace H:=gD H;obtain ⟨c10b0,H⟩:=H
   generalize hy252:(x3_1.set (x4_1:Int).toNat (⟨t249,(rd_T31 x3_1 x4_1).f1,(rd_T31 x3_1 x4_1).f2,(rd_T31 x3_1 x4_1).f3⟩:S31):List (S31))=y252 at H
   have Ny252:=ak_ hy252.symm
   clear hy252
   have H':=ak_ H
   clear H
   obtain ⟨Ao12,co12,eo12⟩:=Kd.R_slice HO_3.out
   subst eo12
   go_wp2_with (first|(go_at_call 53;(with_reducible refine (spec_l1Cur_one.calls g s0_0 x1001_1 x1002_1 4 false t244 t245 w0 _ ?side1 ?side2 A5.out).mono ?_);(case side1=>exact zz2);(case side2=>exact zz3);rintro e w13 ⟨rfl,hi,hb,hk⟩;replace HO_3:=ak_ (Kd.R_mono (Kd.R_keep (IsS45.apart (show IsS45 w0 _ g s0_0 x1001_1 x1002_1 from by repeat ((with_reducible exact HI0.out))) (zR HO_3.out) (by decide)) hk (fun _ h=>h.2)) (fun _ h=>h.1));replace HK:=ak_ (KeepBut.trans zz1 hk (.inl rfl));replace HB:=ak_ (hb);replace HI0:=ak_ (hi);(try clear hb);(try clear hk);(try clear hi))|((with_reducible refine gate_dst (N:=21) rfl ?_);refine Kd.R_lit (Kd.int .i64) _ 3 ?hg (N:=21) ?hd (xs:=([1,1,2,3,4,7]:List Int)) (inner:=[.int .i64 1,.int .i64 1,.int .i64 2,.int .i64 3,.int .i64 4,.int .i64 7]) (ok:=fun _=>True) (okp:=fun _=>True) ?hr ?hp (fun _ hk=>hk) trivial (Below.refl _ _) (Nat.le_refl _) (by simp) ?_;(case hd=>rfl);(case hg=>rfl);(case hr=>(go_simp;done));(case hp=>exact (Reps.one (show Kd.M (Kd.int .i64) _ _ _ 1 [.int .i64 1] from rfl) (Reps.one (show Kd.M (Kd.int .i64) _ _ _ 1 [.int .i64 1] from rfl) (Reps.one (show Kd.M (Kd.int .i64) _ _ _ 2 [.int .i64 2] from rfl) (Reps.one (show Kd.M (Kd.int .i64) _ _ _ 3 [.int .i64 3] from rfl) (Reps.one (show Kd.M (Kd.int .i64) _ _ _ 4 [.int .i64 4] from rfl) (Reps.one (show Kd.M (Kd.int .i64) _ _ _ 7 [.int .i64 7] from rfl) (Reps.none _ _))))))));intro v247 w14 ho15 hb hg_ hnew_;clear hg_ hnew_;(rw [<-Ny246.out] at ho15);replace HO_3:=zRb HO_3 hb;have HO248:=ak_ (Kd.R_lower ho15 (keep_size (w:=w) (g:=g) (row:=none) zz1));replace HK:=ak_ (KeepBut.trans zz1 (KeepBut.of_below hb g none) (.inl rfl));replace HB:=ak_ (below_step zz3 hb);replace HI0:=ak_ (IsS45.below zz2 hb);clear hb ho15;obtain ⟨Ao16,co16,eo16⟩:=Kd.R_slice HO248.out;subst eo16)|((with_reducible refine gate_callee (f:=55) rfl ?_);refine zgo 22 Try.func55 #[.pointer (some ⟨g,0,none⟩),.slice Ao16 y246.length co16] ?_;(with_reducible refine (spec_l1Cur_among.calls g s0_0 t244 t245 _ _ y246 t249 t250 t251 w0 _ ?side1 ?side2 ?side3 ?side4 ?side5 A9.out).mono ?_);(case side1=>exact zz2);(case side2=>exact zz3);(case side3=>exact zC ((Kd.R_reads' HO248.out).2.2));(case side4=>exact (Kd.R_reads' HO248.out).2.1);(case side5=>exact far_slice (IsS45.own_ne HI0.out HO248.out (by decide)));rintro e w17 ⟨rfl,hi,hb,hk⟩;refine ⟨_,rfl,?_⟩;replace HO_3:=ak_ (Kd.R_mono (Kd.R_keep (IsS45.apart (show IsS45 w0 _ g s0_0 t244 t245 from by repeat ((with_reducible exact HI0.out))) (zR HO_3.out) (by decide)) hk (fun _ h=>h.2)) (fun _ h=>h.1));replace HO248:=ak_ (Kd.R_mono (Kd.R_keep (IsS45.apart (show IsS45 w0 _ g s0_0 t244 t245 from by repeat ((with_reducible exact HI0.out))) (zR HO248.out) (by decide)) hk (fun _ h=>h.2)) (fun _ h=>h.1));replace HK:=ak_ (KeepBut.trans zz1 hk (.inl rfl));replace HB:=ak_ (hb);replace HI0:=ak_ (hi);(try clear hb);(try clear hk);(try clear hi);have p11:0<=(x4_1:Int):=oz_;have q11:(x4_1:Int)<((x3_1.length:Int):Int):=oz_;obtain ⟨go11,co11,eo11,gb11,gl11,cl11,HG11⟩:=Kd.R_form HO_3.out (by omega);(cases eo11);have GB11:=ak_ gb11;have GG11:=ak_ HG11;clear gb11 gl11 HG11;obtain ⟨ce11,hcl11,hM11,hcc11,hfr11⟩:=Kd.R_elem HO_3.out z31 (x4_1:Int) p11 q11;obtain rfl:=k31_openM hM11;have hx11_0:w17.cell? ⟨go11,(x4_1:Int).toNat * 4,none⟩=some (.int .i64 ((rd_T31 x3_1 x4_1).f0)):=hcc11 0 _ rfl;have hx11_1:w17.cell? ⟨go11,(x4_1:Int).toNat * 4 + 1,none⟩=some (.int .i64 ((rd_T31 x3_1 x4_1).f1)):=hcc11 1 _ rfl;have hx11_2:w17.cell? ⟨go11,(x4_1:Int).toNat * 4 + 2,none⟩=some (.int .i64 ((rd_T31 x3_1 x4_1).f2)):=hcc11 2 _ rfl;have hx11_3:w17.cell? ⟨go11,(x4_1:Int).toNat * 4 + 3,none⟩=some (.int .i64 ((rd_T31 x3_1 x4_1).f3)):=hcc11 3 _ rfl;have hf11_0:w17.frozen? ⟨go11,(x4_1:Int).toNat * 4,none⟩=false:=hfr11 0;have hf11_1:w17.frozen? ⟨go11,(x4_1:Int).toNat * 4 + 1,none⟩=false:=hfr11 1;have hf11_2:w17.frozen? ⟨go11,(x4_1:Int).toNat * 4 + 2,none⟩=false:=hfr11 2;have hf11_3:w17.frozen? ⟨go11,(x4_1:Int).toNat * 4 + 3,none⟩=false:=hfr11 3;(clear hcl11 hcc11 hfr11;(try clear hM11));replace p11:=eq_true p11;replace q11:=eq_true q11;have HX18:=ak_ (show Kd.R k31 31 w17 w.heap.size (fun _=>True) (.slice (some ⟨go11,0,none⟩) x3_1.length co12) x3_1 from (zR HO_3.out));obtain ⟨ce18,hcl18,hM18,hcc18,hfr18⟩:=Kd.R_elem HX18.out z31 (x4_1:Int) (oz_) (by have h_:(x4_1:Int)<((x3_1.length:Int):Int):=oz_;exact h_);obtain rfl:=k31_openM hM18;have HP18:=Kd.R_seg HX18.out (x4_1:Int) (oz_) (by have h_:(x4_1:Int)<((x3_1.length:Int):Int):=oz_;exact h_) (seg:=[.int .i64 t249]) (j:=0) hcl18 hcc18 (show 1<=4 from by decide) (x':=(⟨t249,(rd_T31 x3_1 x4_1).f1,(rd_T31 x3_1 x4_1).f2,(rd_T31 x3_1 x4_1).f3⟩:S31)) (k31_mkM _ _ _ (⟨t249,(rd_T31 x3_1 x4_1).f1,(rd_T31 x3_1 x4_1).f2,(rd_T31 x3_1 x4_1).f3⟩:S31)) (fun _ hk=>hk);have hx18_0:=hcc18 0 _ rfl;(try simp only [show (k31).sz=4 from rfl,Nat.mul_one,Nat.add_zero] at hx18_0);have hf18_0:=hfr18 0;(try simp only [show (k31).sz=4 from rfl,Nat.mul_one,Nat.add_zero] at hf18_0);(clear hcl18 hcc18 hfr18;(try clear hM18)))|((with_reducible refine gate_store (t:=3) (p:=24) rfl ?_);refine store_event (t:=3) (p:=24) (v:=?vo_w19) (w1:=(w17.setCell ⟨go11,(x4_1:Int).toNat * 4,none⟩ (.int .i64 t249))) ?hg ?ho ?hn ?hr ?_;(case ho=>rfl);(case hg=>rfl);(case hn=>rfl);(case hr=>(go_simp;done));intro w19 hw;have hg:w17.grownBy w19 (some go11):=(by rw [hw];exact HP18.2);have hp_:Kd.R k31 31 w19 w.heap.size (fun _=>True) (.slice (some ⟨go11,0,none⟩) x3_1.length co12) y252:=(by rw [hw,Ny252.out];exact HP18.1);clear HP18;replace HI0:=ak_ (IsS45.grown zz2 hg (IsS45.own_ne HI0.out HO_3.out (by decide)));replace HO248:=ak_ (Kd.R_over' (v:=(.slice (some ⟨go11,0,none⟩) x3_1.length co12)) (zR HO248.out) (Kd.R_typed HO_3.out) (by decide) hg);replace HB:=ak_ ((by rw [hw];exact below_set (HB.out) (Nat.le_trans HL.out GB11.out):Below w0.heap.size w0 w19));replace HK:=ak_ (KeepBut.trans zz1 (KeepBut.of_grown hg g) (Kd.R_base2 HO_3.out));replace HO_3:=ak_ (hp_);clear hg hw hp_))
   go_roundg k1
   case measure=>have:=HK1.out;omega
   case rel=>exact ⟨(y252),(wrap64 (x4_1 + 1)),(t250),(t251),zo,H',⟨by have:=HK1.out;omega⟩,⟨zR HO_3.out⟩,⟨zz2⟩,⟨zz1⟩,⟨zz3⟩⟩
def spec_l1Cur_machines.f (s0_0:List Int) (s0_1:Int) (s0_2:Int):Option (Int × Int × Int):=(spec_l1Cur_one.f s0_0 s0_1 s0_2 24).bind fun bt253=>(if bt253.1=true then ((spec_l1Cur_among.f s0_0 bt253.2.1 bt253.2.2 (([0,5,(-1)]:List Int))).bind fun bt259=>(some (bt259.1,bt259.2.1,bt259.2.2))) else ((spec_l1Cur_among.f s0_0 bt253.2.1 bt253.2.2 (([2,2,3,1,4]:List Int))).bind fun bt265=>(some (bt265.1,bt265.2.1,bt265.2.2))))
theorem spec_l1Cur_machines.calls (g:Nat) (s0_0:List Int) (s0_1:Int) (s0_2:Int) (r1:Int) (r2:Int) (r3:Int) (w0 w:World) (hI:IsS45 w0 w g s0_0 s0_1 s0_2) (hB:Below w0.heap.size w0 w) (h:spec_l1Cur_machines.f s0_0 s0_1 s0_2=some (r1,r2,r3)) :
  Calls Try.prog 34 #[.pointer (some ⟨g,0,none⟩)] w fun e w'=>e=.returned (.int .i64 r1)/\IsS45 w0 w' g s0_0 r2 r3/\Below w0.heap.size w0 w'/\KeepBut w w' g none:=by
 have HI0:=ak_ hI
 have HK:=ak_ (KeepBut.refl w g none)
 have HL:=ak_ hB.size
 clear hI
 have HW0:=ak_ hB.size
 have HB:=ak_ hB
 clear hB
 have H:((spec_l1Cur_one.f s0_0 s0_1 s0_2 24).bind fun bt253=>(if bt253.1=true then ((spec_l1Cur_among.f s0_0 bt253.2.1 bt253.2.2 (([0,5,(-1)]:List Int))).bind fun bt259=>(some (bt259.1,bt259.2.1,bt259.2.2))) else ((spec_l1Cur_among.f s0_0 bt253.2.1 bt253.2.2 (([2,2,3,1,4]:List Int))).bind fun bt265=>(some (bt265.1,bt265.2.1,bt265.2.2)))))=some (r1,r2,r3):=h
 clear h
 replace H:=gT H;obtain ⟨⟨t253,t254,t255⟩,A2,H⟩:=H
 try dsimp only at H
 replace H:=gPB H;rcases H with ⟨rfl,H⟩ | ⟨rfl,H⟩
 ·generalize hy256:(([0,5,(-1)]:List Int):List Int)=y256 at H
  have Ny256:=ak_ hy256.symm
  clear hy256
  replace H:=gT H;obtain ⟨⟨t259,t260,t261⟩,A4,H⟩:=H
  try dsimp only at H
  simp only [Option.some.injEq,Prod.mk.injEq] at H
  obtain ⟨rfl,rfl,rfl⟩:=H
  go_enter Try.func34,Try.ntmps34
  go_wp2_with (first|((with_reducible refine gate_callee (f:=53) rfl ?_);refine zgo 4 Try.func53 #[.pointer (some ⟨g,0,none⟩),.int .i64 24] ?_;(with_reducible refine (spec_l1Cur_one.calls g s0_0 s0_1 s0_2 24 true t254 t255 w0 _ ?side1 ?side2 A2.out).mono ?_);(case side1=>exact zz2);(case side2=>exact zz3);rintro e w5 ⟨rfl,hi,hb,hk⟩;refine ⟨_,rfl,?_⟩;replace HK:=ak_ (KeepBut.trans zz1 hk (.inl rfl));replace HB:=ak_ (hb);replace HI0:=ak_ (hi);(try clear hb);(try clear hk);(try clear hi))|((with_reducible refine gate_dst (N:=6) rfl ?_);refine Kd.R_lit (Kd.int .i64) _ 3 ?hg (N:=6) ?hd (xs:=([0,5,(-1)]:List Int)) (inner:=[.int .i64 0,.int .i64 5,.int .i64 (-1)]) (ok:=fun _=>True) (okp:=fun _=>True) ?hr ?hp (fun _ hk=>hk) trivial (Below.refl _ _) (Nat.le_refl _) (by simp) ?_;(case hd=>rfl);(case hg=>rfl);(case hr=>(go_simp;done));(case hp=>exact (Reps.one (show Kd.M (Kd.int .i64) _ _ _ 0 [.int .i64 0] from rfl) (Reps.one (show Kd.M (Kd.int .i64) _ _ _ 5 [.int .i64 5] from rfl) (Reps.one (show Kd.M (Kd.int .i64) _ _ _ (-1) [.int .i64 (-1)] from rfl) (Reps.none _ _)))));intro v257 w6 ho7 hb hg_ hnew_;clear hg_ hnew_;(rw [<-Ny256.out] at ho7);have HO258:=ak_ (Kd.R_lower ho7 (keep_size (w:=w) (g:=g) (row:=none) zz1));replace HK:=ak_ (KeepBut.trans zz1 (KeepBut.of_below hb g none) (.inl rfl));replace HB:=ak_ (below_step zz3 hb);replace HI0:=ak_ (IsS45.below zz2 hb);clear hb ho7;obtain ⟨Ao8,co8,eo8⟩:=Kd.R_slice HO258.out;subst eo8)|((with_reducible refine gate_callee (f:=55) rfl ?_);refine zgo 7 Try.func55 #[.pointer (some ⟨g,0,none⟩),.slice Ao8 y256.length co8] ?_;(with_reducible refine (spec_l1Cur_among.calls g s0_0 t254 t255 _ _ y256 t259 t260 t261 w0 _ ?side1 ?side2 ?side3 ?side4 ?side5 A4.out).mono ?_);(case side1=>exact zz2);(case side2=>exact zz3);(case side3=>exact zC ((Kd.R_reads' HO258.out).2.2));(case side4=>exact (Kd.R_reads' HO258.out).2.1);(case side5=>exact far_slice (IsS45.own_ne HI0.out HO258.out (by decide)));rintro e w9 ⟨rfl,hi,hb,hk⟩;refine ⟨_,rfl,?_⟩;replace HO258:=ak_ (Kd.R_mono (Kd.R_keep (IsS45.apart (show IsS45 w0 _ g s0_0 t254 t255 from by repeat ((with_reducible exact HI0.out))) (zR HO258.out) (by decide)) hk (fun _ h=>h.2)) (fun _ h=>h.1));replace HK:=ak_ (KeepBut.trans zz1 hk (.inl rfl));replace HB:=ak_ (hb);replace HI0:=ak_ (hi);(try clear hb);(try clear hk);(try clear hi)))
  go_ret
  exact ⟨zz0,zz2,zz3,zz1⟩
 generalize hy262:(([2,2,3,1,4]:List Int):List Int)=y262 at H
 have Ny262:=ak_ hy262.symm
 clear hy262
 replace H:=gT H;obtain ⟨⟨t265,t266,t267⟩,A10,H⟩:=H
 try dsimp only at H
 simp only [Option.some.injEq,Prod.mk.injEq] at H
 obtain ⟨rfl,rfl,rfl⟩:=H
 go_enter Try.func34,Try.ntmps34
 go_wp2_with (first|((with_reducible refine gate_callee (f:=53) rfl ?_);refine zgo 4 Try.func53 #[.pointer (some ⟨g,0,none⟩),.int .i64 24] ?_;(with_reducible refine (spec_l1Cur_one.calls g s0_0 s0_1 s0_2 24 false t254 t255 w0 _ ?side1 ?side2 A2.out).mono ?_);(case side1=>exact zz2);(case side2=>exact zz3);rintro e w11 ⟨rfl,hi,hb,hk⟩;refine ⟨_,rfl,?_⟩;replace HK:=ak_ (KeepBut.trans zz1 hk (.inl rfl));replace HB:=ak_ (hb);replace HI0:=ak_ (hi);(try clear hb);(try clear hk);(try clear hi))|((with_reducible refine gate_dst (N:=9) rfl ?_);refine Kd.R_lit (Kd.int .i64) _ 3 ?hg (N:=9) ?hd (xs:=([2,2,3,1,4]:List Int)) (inner:=[.int .i64 2,.int .i64 2,.int .i64 3,.int .i64 1,.int .i64 4]) (ok:=fun _=>True) (okp:=fun _=>True) ?hr ?hp (fun _ hk=>hk) trivial (Below.refl _ _) (Nat.le_refl _) (by simp) ?_;(case hd=>rfl);(case hg=>rfl);(case hr=>(go_simp;done));(case hp=>exact (Reps.one (show Kd.M (Kd.int .i64) _ _ _ 2 [.int .i64 2] from rfl) (Reps.one (show Kd.M (Kd.int .i64) _ _ _ 2 [.int .i64 2] from rfl) (Reps.one (show Kd.M (Kd.int .i64) _ _ _ 3 [.int .i64 3] from rfl) (Reps.one (show Kd.M (Kd.int .i64) _ _ _ 1 [.int .i64 1] from rfl) (Reps.one (show Kd.M (Kd.int .i64) _ _ _ 4 [.int .i64 4] from rfl) (Reps.none _ _)))))));intro v263 w12 ho13 hb hg_ hnew_;clear hg_ hnew_;(rw [<-Ny262.out] at ho13);have HO264:=ak_ (Kd.R_lower ho13 (keep_size (w:=w) (g:=g) (row:=none) zz1));replace HK:=ak_ (KeepBut.trans zz1 (KeepBut.of_below hb g none) (.inl rfl));replace HB:=ak_ (below_step zz3 hb);replace HI0:=ak_ (IsS45.below zz2 hb);clear hb ho13;obtain ⟨Ao14,co14,eo14⟩:=Kd.R_slice HO264.out;subst eo14)|((with_reducible refine gate_callee (f:=55) rfl ?_);refine zgo 10 Try.func55 #[.pointer (some ⟨g,0,none⟩),.slice Ao14 y262.length co14] ?_;(with_reducible refine (spec_l1Cur_among.calls g s0_0 t254 t255 _ _ y262 t265 t266 t267 w0 _ ?side1 ?side2 ?side3 ?side4 ?side5 A10.out).mono ?_);(case side1=>exact zz2);(case side2=>exact zz3);(case side3=>exact zC ((Kd.R_reads' HO264.out).2.2));(case side4=>exact (Kd.R_reads' HO264.out).2.1);(case side5=>exact far_slice (IsS45.own_ne HI0.out HO264.out (by decide)));rintro e w15 ⟨rfl,hi,hb,hk⟩;refine ⟨_,rfl,?_⟩;replace HO264:=ak_ (Kd.R_mono (Kd.R_keep (IsS45.apart (show IsS45 w0 _ g s0_0 t254 t255 from by repeat ((with_reducible exact HI0.out))) (zR HO264.out) (by decide)) hk (fun _ h=>h.2)) (fun _ h=>h.1));replace HK:=ak_ (KeepBut.trans zz1 hk (.inl rfl));replace HB:=ak_ (hb);replace HI0:=ak_ (hi);(try clear hb);(try clear hk);(try clear hi)))
 go_ret
 exact ⟨zz0,zz2,zz3,zz1⟩
def spec_DrawLongestFirst.f (k:Nat) (l0:List Int):Option ((List (S31)) × Int):=(spec_l1Cur_work7.f k l0 0 0).bind fun bt269=>((spec_l1Cur_machines.f l0 bt269.2.1 bt269.2.2).bind fun bt274=>(some (bt269.1,bt274.1)))
theorem spec_DrawLongestFirst.calls (k:Nat) (A0:Option Addr) (c0:Nat) (l0:List Int) (r1:List (S31)) (r2:Int) (w:World) (hr0:Kd.C (Kd.int .u8) w A0 l0.length l0) (hc0:l0.length<=c0) (h:spec_DrawLongestFirst.f k l0=some (r1,r2)) :
  Calls Try.prog 11 #[.slice A0 l0.length c0] w fun e w'=>∃ v0_:Value,e=.returned (.tuple #[v0_,.int .i64 r2])/\Kd.R k31 31 w' w.heap.size (fun _=>True) v0_ r1/\Below w.heap.size w w':=by
 have hu45:=Try.underlying45
 have HR0:=ak_ hr0
 have HC0:=ak_ hc0
 clear hr0 hc0
 have HB:=ak_ (Below.refl w.heap.size w)
 have H:((spec_l1Cur_work7.f k l0 0 0).bind fun bt269=>((spec_l1Cur_machines.f l0 bt269.2.1 bt269.2.2).bind fun bt274=>(some (bt269.1,bt274.1))))=some (r1,r2):=h
 clear h
 replace H:=gT H;obtain ⟨⟨t269,t272,t273⟩,A2,H⟩:=H
 try dsimp only at H
 replace H:=gT H;obtain ⟨⟨t274,t275,t276⟩,A3,H⟩:=H
 try dsimp only at H
 simp only [Option.some.injEq,Prod.mk.injEq] at H
 obtain ⟨rfl,rfl⟩:=H
 go_enter Try.func11,Try.ntmps11
 go_wp2_with (first|((with_reducible refine gate_dst (N:=7) rfl ?_);refine box_event ?hg (N:=7) ?hd (cs:=#[.slice A0 l0.length c0,.int .i64 0,.int .u64 0]) (t:=45) ?hr ?_;(case hd=>rfl);(case hg=>rfl);(case hr=>(go_simp;done));intro gb268 hg w4 hbox hb;have GW268:=ak_ ((by rw [hg];exact (below_size zb):w.heap.size<=gb268));have GE268:=ak_ ((by rw [hg];exact (below_size zb):w.heap.size<=gb268));have HI268:=ak_ ((show IsS45 w _ gb268 l0 0 0 from ⟨_,_,hbox,(by rw [hg];exact (below_size zb):w.heap.size<=gb268),HR0.out⟩));replace HB:=zb1 hb;clear hb hbox hg)|((with_reducible refine gate_callee (f:=33) rfl ?_);refine zgo 9 Try.func33 #[.pointer (some ⟨gb268,0,none⟩)] ?_;(with_reducible refine (spec_l1Cur_work7.calls k gb268 l0 0 0 t269 t272 t273 w _ ?side1 ?side2 A2.out).mono ?_);(case side1=>repeat ((with_reducible exact HI268.out)));(case side2=>exact zz84);rintro e w5 ⟨v270,rfl,ho0,hi,hb,hk⟩;refine ⟨_,rfl,?_⟩;have HO271:=ak_ (Kd.R_lower ho0 (below_size zz84));replace HB:=ak_ (hb);replace HI268:=ak_ (hi);(try clear hb);(try clear hk);(try clear hi);(try clear ho0))|((with_reducible refine gate_callee (f:=34) rfl ?_);refine zgo 11 Try.func34 #[.pointer (some ⟨gb268,0,none⟩)] ?_;(with_reducible refine (spec_l1Cur_machines.calls gb268 l0 t272 t273 t274 t275 t276 w _ ?side1 ?side2 A3.out).mono ?_);(case side1=>repeat ((with_reducible exact HI268.out)));(case side2=>exact zz84);rintro e w6 ⟨rfl,hi,hb,hk⟩;refine ⟨_,rfl,?_⟩;replace HO271:=ak_ (Kd.R_mono (Kd.R_keep (IsS45.apart (show IsS45 w _ gb268 l0 t272 t273 from by repeat ((with_reducible exact HI268.out))) (zR HO271.out) (by decide)) hk (fun _ h=>h.2)) (fun _ h=>h.1));replace HB:=ak_ (hb);replace HI268:=ak_ (hi);(try clear hb);(try clear hk);(try clear hi)))
 go_ret2
 exact ⟨_,zz0,zR HO271.out,zz84⟩
def impl_numbersTo.l0:Nat->Int->List Int->Int->Option (List Int)
 | 0,_,_,_=>none
 | k + 1,x0,x3,x4=>if x4<x0 then (if x3.length<17592186044416 then (impl_numbersTo.l0 k x0 (x3++[x4]) (wrap64 (x4 + 1))) else (none)) else (some x3)
def impl_numbersTo.f (k:Nat) (a0:Int):Option (List Int):=impl_numbersTo.l0 k a0 ([]:List Int) 0
theorem impl_numbersTo.calls (k:Nat) (a0:Int) (r:List Int) (w:World) (h:impl_numbersTo.f k a0=some r) :
  Calls Try.prog 27 #[.int .i64 a0] w fun e w'=>∃ v0_:Value,e=.returned (v0_)/\Kd.R (Kd.int .i64) 3 w' w.heap.size (fun _=>True) v0_ r/\Below w.heap.size w w':=by
 have HB:=ak_ (Below.refl w.heap.size w)
 have H:(impl_numbersTo.l0 k a0 ([]:List Int) 0)=some r:=h
 clear h
 have H':=ak_ H
 clear H
 go_enter Try.func27,Try.ntmps27
 go_wp2
 go_loopg [3,4] k (fun kq v3 v4 w'=>∃ (x3_1:List Int) (x4_1:Int),v4=.int .i64 x4_1/\Aside0 (impl_numbersTo.l0 kq a0 x3_1 x4_1=some r)/\Aside0 (kq<=k)/\Aside0 (Kd.R (Kd.int .i64) 3 w' w.heap.size (fun _=>True) v3 x3_1)/\Aside0 (Below w.heap.size w w'))
 case atStart=>exact ⟨(([]:List Int)),(0),zo,H',⟨Nat.le_refl _⟩,⟨by exact Kd.R_nil _ _ _ _ _⟩,⟨zb⟩⟩
 case round=>
  clear H'
  obtain ⟨x3_1,x4_1,rfl,HA,HK1,HO_3,HB⟩:=hrel
  cases gk with
  | zero=>exact absurd HA.out (by simp [impl_numbersTo.l0])
  | succ k1=>
   have H:=HA.out
   clear HA
   simp only [impl_numbersTo.l0] at H
   replace H:=gND H;rcases H with ⟨c2b0,H⟩ | ⟨c2b0,H⟩
   ·obtain rfl:=oi_ H
    go_wp2
    go_ret
    exact ⟨_,zz0,zR HO_3.out,zb⟩
   replace H:=gL H;obtain ⟨LMc3,H⟩:=H
   generalize hy277:(x3_1++[x4_1]:List Int)=y277 at H
   have Ny277:=ak_ hy277.symm
   clear hy277
   have H':=ak_ H
   clear H
   go_wp2_with (((with_reducible refine gate_builtin (b:=.append) (xs:=#[.tmp 10,.tmp 12]) rfl ?_);at_builtin;refine Kd.R_append (Kd.int .i64) (w0:=w) w.heap.size rfl (.tmp 10) (.tmp 12) 49 3 (.int .i64 0) 8 rfl Try.underlying49 info3 rfl (by decide) (by omega) u3 x3_1 x4_1 [.int .i64 x4_1] (fun _=>True) (fun _=>False) rfl rfl ?aP (fun _ hk=>hk.elim) ?aF ?aO ?aB ?aS ?aL ?_;(case aP=>exact rfl);(case aB=>exact zb);(case aF=>exact (fun _ _=>trivial));(case aO=>exact (zR HO_3.out));(case aS=>exact (below_size zb));(case aL=>have:=LMc3.out;omega);intro v278 w4 ho hb hg hat;rw [<-Ny277.out] at ho;replace HB:=ak_ (hb);have HO279:=ak_ (ho);clear HO_3;clear ho hb hg hat))
   go_roundg k1
   case measure=>have:=HK1.out;omega
   case rel=>exact ⟨(y277),(wrap64 (x4_1 + 1)),zo,H',⟨by have:=HK1.out;omega⟩,⟨zR HO279.out⟩,⟨zb⟩⟩
def impl_within.f (a0:Int) (a1:Int) (a2:Int):Option (Bool):=if a1<=a0 then (some (decide (a0<=a2))) else (some false)
theorem impl_within.calls (a0:Int) (a1:Int) (a2:Int) (r:Bool) (w:World) (h:impl_within.f a0 a1 a2=some r) :
  Calls Try.prog 73 #[.int .i64 a0,.int .i64 a1,.int .i64 a2] w fun e w'=>e=.returned (.bool r)/\Drawn0 w w':=by
 have H:(if a1<=a0 then (some (decide (a0<=a2))) else (some false))=some r:=h
 clear h
 replace H:=gPD H;rcases H with ⟨c4b0,H⟩ | ⟨c4b0,H⟩
 ·obtain rfl:=oi_ H
  go_enter Try.func73,Try.ntmps73
  go_wp2
  go_ret
  exact ⟨zz7,zz4⟩
 obtain rfl:=oi_ H
 go_enter Try.func73,Try.ntmps73
 go_wp2
 go_ret
 exact ⟨zz7,zz4⟩
def impl_isDate.f (a0:Int):Option (Bool):=(impl_within.f a0 0 500).bind fun t280=>(some t280)
theorem impl_isDate.calls (a0:Int) (r:Bool) (w:World) (h:impl_isDate.f a0=some r) :
  Calls Try.prog 90 #[.int .i64 a0] w fun e w'=>e=.returned (.bool r)/\Drawn0 w w':=by
 have H:((impl_within.f a0 0 500).bind fun t280=>(some t280))=some r:=h
 clear h
 replace H:=gT H;obtain ⟨t280,A2,H⟩:=H
 obtain rfl:=oi_ H
 go_enter Try.func90,Try.ntmps90
 go_wp2_with (((with_reducible refine gate_callee (f:=73) rfl ?_);refine zgo 4 Try.func73 #[.int .i64 a0,.int .i64 0,.int .i64 500] ?_;(with_reducible refine (impl_within.calls a0 0 500 t280 _ A2.out).mono ?_);rintro e w' ⟨rfl,⟨nd,rfl⟩⟩;refine ⟨_,rfl,?_⟩))
 go_ret
 exact ⟨zz7,zz4⟩
def impl_IsJobs.l0:Nat->List (S31)->Int->Int->Option (Bool)
 | 0,_,_,_=>none
 | k + 1,x8,x9,x10=>if x10<x9 then (if 0<=x10 then (if x10<(x8.length:Int) then ((impl_within.f ((rd_T31 x8 x10).f0) 1 50).bind fun t283=>(if t283=true then ((impl_within.f ((rd_T31 x8 x10).f1) 0 50).bind fun t284=>(if t284=true then ((impl_isDate.f ((rd_T31 x8 x10).f2)).bind fun t285=>(if t285=true then ((impl_isDate.f ((rd_T31 x8 x10).f3)).bind fun t286=>(if t286=true then (impl_IsJobs.l0 k x8 x9 (wrap64 (x10 + 1))) else (some false))) else (some false))) else (some false))) else (some false))) else (none)) else (none)) else (some true)
def impl_IsJobs.f (k:Nat) (l0:List (S31)):Option (Bool):=if (l0.length:Int)>8 then (some false) else (impl_IsJobs.l0 k l0 (l0.length:Int) 0)
theorem impl_IsJobs.calls (k:Nat) (A0:Option Addr) (c0:Nat) (l0:List (S31)) (r:Bool) (w:World) (hr0:Kd.C k31 w A0 l0.length l0) (hc0:l0.length<=c0) (h:impl_IsJobs.f k l0=some r) :
  Calls Try.prog 56 #[.slice A0 l0.length c0] w fun e w'=>e=.returned (.bool r)/\Below w.heap.size w w':=by
 have hu31:=Try.underlying31
 have HR0:=ak_ hr0
 have HC0:=ak_ hc0
 clear hr0 hc0
 have HB:=ak_ (Below.refl w.heap.size w)
 have H:(if (l0.length:Int)>8 then (some false) else (impl_IsJobs.l0 k l0 (l0.length:Int) 0))=some r:=h
 clear h
 replace H:=gP H;rcases H with ⟨c2,H⟩ | ⟨c2,H⟩
 ·have c2b0:=decide_eq_true c2
  have c2b1:decide (8<l0.length)=true:=decide_eq_true (by omega)
  clear c2
  obtain rfl:=oi_ H
  go_enter Try.func56,Try.ntmps56
  go_wp2
  go_ret
  exact ⟨zz0,zb⟩
 have c2b0:=decide_eq_false c2
 have c2b1:decide (8<l0.length)=false:=decide_eq_false (by omega)
 clear c2
 have H':=ak_ H
 clear H
 go_enter Try.func56,Try.ntmps56
 go_wp2
 go_loopg [10] k (fun kq v10 w'=>∃ (x10_1:Int),v10=.int .i64 x10_1/\Aside0 (impl_IsJobs.l0 kq l0 (l0.length:Int) x10_1=some r)/\Aside0 (kq<=k)/\Aside0 (Below w.heap.size w w'))
 case atStart=>exact ⟨(0),zo,H',⟨Nat.le_refl _⟩,⟨zb⟩⟩
 case round=>
  clear H'
  obtain ⟨x10_1,rfl,HA,HK1,HB⟩:=hrel
  cases gk with
  | zero=>exact absurd HA.out (by simp [impl_IsJobs.l0])
  | succ k1=>
   have H:=HA.out
   clear HA
   simp only [impl_IsJobs.l0] at H
   replace H:=gND H;rcases H with ⟨c3b0,H⟩ | ⟨c3b0,H⟩
   ·obtain rfl:=oi_ H
    go_wp2
    go_ret
    exact ⟨zz0,zb⟩
   replace H:=gD H;obtain ⟨c4b0,H⟩:=H
   replace H:=gD H;obtain ⟨c5b0,H⟩:=H
   replace H:=gT H;obtain ⟨t283,A6,H⟩:=H
   replace H:=gNB H;rcases H with ⟨rfl,H⟩ | ⟨rfl,H⟩
   ·obtain rfl:=oi_ H
    have p281:0<=(x10_1:Int):=oz_
    have q281:x10_1<(l0.length:Int):=oz_
    obtain ⟨ad281,e281,hx281_0,hx281_1,hx281_2,hx281_3⟩:=at_T31 HR0.out x10_1 p281 q281
    cases e281
    replace hx281_0:=zh_ HB hx281_0
    replace hx281_1:=zh_ HB hx281_1
    replace hx281_2:=zh_ HB hx281_2
    replace hx281_3:=zh_ HB hx281_3
    replace p281:=eq_true p281
    replace q281:=eq_true q281
    go_wp2_with (first|((with_reducible refine gate_dst (N:=4) rfl ?_);refine box_event ?hg (N:=4) ?hd (cs:=#[.int .i64 0,.int .i64 0,.int .i64 0,.int .i64 0]) (t:=31) ?hr ?_;(case hd=>rfl);(case hg=>rfl);(case hr=>(go_simp;done));intro gb282 hg w22 hbox hb;have BK282:=ak_ (hbox);have GW282:=ak_ ((by rw [hg];exact (below_size zb):w.heap.size<=gb282));have GE282:=ak_ ((by rw [hg];exact (below_size zb):w.heap.size<=gb282));replace HB:=zb1 hb;clear hb hbox hg;obtain ⟨hcz23_0,hcz23_1,hcz23_2,hcz23_3,hfz23_0,hfz23_1,hfz23_2,hfz23_3⟩:=zk4 BK282.out)|((with_reducible refine gate_callee (f:=73) rfl ?_);refine zgo 16 Try.func73 #[.int .i64 ((rd_T31 l0 x10_1).f0),.int .i64 1,.int .i64 50] ?_;(with_reducible refine (impl_within.calls ((rd_T31 l0 x10_1).f0) 1 50 false _ A6.out).mono ?_);rintro e w' ⟨rfl,⟨nd,rfl⟩⟩;refine ⟨_,rfl,?_⟩))
    go_ret
    exact ⟨zz0,zz72⟩
   replace H:=gT H;obtain ⟨t284,A8,H⟩:=H
   replace H:=gNB H;rcases H with ⟨rfl,H⟩ | ⟨rfl,H⟩
   ·obtain rfl:=oi_ H
    have p281:0<=(x10_1:Int):=oz_
    have q281:x10_1<(l0.length:Int):=oz_
    obtain ⟨ad281,e281,hx281_0,hx281_1,hx281_2,hx281_3⟩:=at_T31 HR0.out x10_1 p281 q281
    cases e281
    replace hx281_0:=zh_ HB hx281_0
    replace hx281_1:=zh_ HB hx281_1
    replace hx281_2:=zh_ HB hx281_2
    replace hx281_3:=zh_ HB hx281_3
    replace p281:=eq_true p281
    replace q281:=eq_true q281
    go_wp2_with (first|((with_reducible refine gate_dst (N:=4) rfl ?_);refine box_event ?hg (N:=4) ?hd (cs:=#[.int .i64 0,.int .i64 0,.int .i64 0,.int .i64 0]) (t:=31) ?hr ?_;(case hd=>rfl);(case hg=>rfl);(case hr=>(go_simp;done));intro gb282 hg w20 hbox hb;have BK282:=ak_ (hbox);have GW282:=ak_ ((by rw [hg];exact (below_size zb):w.heap.size<=gb282));have GE282:=ak_ ((by rw [hg];exact (below_size zb):w.heap.size<=gb282));replace HB:=zb1 hb;clear hb hbox hg;obtain ⟨hcz21_0,hcz21_1,hcz21_2,hcz21_3,hfz21_0,hfz21_1,hfz21_2,hfz21_3⟩:=zk4 BK282.out)|((with_reducible refine gate_callee (f:=73) rfl ?_);refine zgo 16 Try.func73 #[.int .i64 ((rd_T31 l0 x10_1).f0),.int .i64 1,.int .i64 50] ?_;(with_reducible refine (impl_within.calls ((rd_T31 l0 x10_1).f0) 1 50 true _ A6.out).mono ?_);rintro e w' ⟨rfl,⟨nd,rfl⟩⟩;refine ⟨_,rfl,?_⟩)|(go_at_call 73;(with_reducible refine (impl_within.calls ((rd_T31 l0 x10_1).f1) 0 50 false _ A8.out).mono ?_);rintro e w' ⟨rfl,⟨nd,rfl⟩⟩))
    go_ret
    exact ⟨zz0,zz72⟩
   replace H:=gT H;obtain ⟨t285,A10,H⟩:=H
   replace H:=gNB H;rcases H with ⟨rfl,H⟩ | ⟨rfl,H⟩
   ·obtain rfl:=oi_ H
    have p281:0<=(x10_1:Int):=oz_
    have q281:x10_1<(l0.length:Int):=oz_
    obtain ⟨ad281,e281,hx281_0,hx281_1,hx281_2,hx281_3⟩:=at_T31 HR0.out x10_1 p281 q281
    cases e281
    replace hx281_0:=zh_ HB hx281_0
    replace hx281_1:=zh_ HB hx281_1
    replace hx281_2:=zh_ HB hx281_2
    replace hx281_3:=zh_ HB hx281_3
    replace p281:=eq_true p281
    replace q281:=eq_true q281
    go_wp2_with (first|((with_reducible refine gate_dst (N:=4) rfl ?_);refine box_event ?hg (N:=4) ?hd (cs:=#[.int .i64 0,.int .i64 0,.int .i64 0,.int .i64 0]) (t:=31) ?hr ?_;(case hd=>rfl);(case hg=>rfl);(case hr=>(go_simp;done));intro gb282 hg w18 hbox hb;have BK282:=ak_ (hbox);have GW282:=ak_ ((by rw [hg];exact (below_size zb):w.heap.size<=gb282));have GE282:=ak_ ((by rw [hg];exact (below_size zb):w.heap.size<=gb282));replace HB:=zb1 hb;clear hb hbox hg;obtain ⟨hcz19_0,hcz19_1,hcz19_2,hcz19_3,hfz19_0,hfz19_1,hfz19_2,hfz19_3⟩:=zk4 BK282.out)|((with_reducible refine gate_callee (f:=73) rfl ?_);refine zgo 16 Try.func73 #[.int .i64 ((rd_T31 l0 x10_1).f0),.int .i64 1,.int .i64 50] ?_;(with_reducible refine (impl_within.calls ((rd_T31 l0 x10_1).f0) 1 50 true _ A6.out).mono ?_);rintro e w' ⟨rfl,⟨nd,rfl⟩⟩;refine ⟨_,rfl,?_⟩)|(go_at_call 73;(with_reducible refine (impl_within.calls ((rd_T31 l0 x10_1).f1) 0 50 true _ A8.out).mono ?_);rintro e w' ⟨rfl,⟨nd,rfl⟩⟩)|(go_at_call 90;(with_reducible refine (impl_isDate.calls ((rd_T31 l0 x10_1).f2) false _ A10.out).mono ?_);rintro e w' ⟨rfl,⟨nd,rfl⟩⟩))
    go_ret
    exact ⟨zz0,zz72⟩
   replace H:=gT H;obtain ⟨t286,A12,H⟩:=H
   replace H:=gPB H;rcases H with ⟨rfl,H⟩ | ⟨rfl,H⟩
   ·have H':=ak_ H
    clear H
    have p281:0<=(x10_1:Int):=oz_
    have q281:x10_1<(l0.length:Int):=oz_
    obtain ⟨ad281,e281,hx281_0,hx281_1,hx281_2,hx281_3⟩:=at_T31 HR0.out x10_1 p281 q281
    cases e281
    replace hx281_0:=zh_ HB hx281_0
    replace hx281_1:=zh_ HB hx281_1
    replace hx281_2:=zh_ HB hx281_2
    replace hx281_3:=zh_ HB hx281_3
    replace p281:=eq_true p281
    replace q281:=eq_true q281
    go_wp2_with (first|((with_reducible refine gate_dst (N:=4) rfl ?_);refine box_event ?hg (N:=4) ?hd (cs:=#[.int .i64 0,.int .i64 0,.int .i64 0,.int .i64 0]) (t:=31) ?hr ?_;(case hd=>rfl);(case hg=>rfl);(case hr=>(go_simp;done));intro gb282 hg w14 hbox hb;have BK282:=ak_ (hbox);have GW282:=ak_ ((by rw [hg];exact (below_size zb):w.heap.size<=gb282));have GE282:=ak_ ((by rw [hg];exact (below_size zb):w.heap.size<=gb282));replace HB:=zb1 hb;clear hb hbox hg;obtain ⟨hcz15_0,hcz15_1,hcz15_2,hcz15_3,hfz15_0,hfz15_1,hfz15_2,hfz15_3⟩:=zk4 BK282.out)|((with_reducible refine gate_callee (f:=73) rfl ?_);refine zgo 16 Try.func73 #[.int .i64 ((rd_T31 l0 x10_1).f0),.int .i64 1,.int .i64 50] ?_;(with_reducible refine (impl_within.calls ((rd_T31 l0 x10_1).f0) 1 50 true _ A6.out).mono ?_);rintro e w' ⟨rfl,⟨nd,rfl⟩⟩;refine ⟨_,rfl,?_⟩)|(go_at_call 73;(with_reducible refine (impl_within.calls ((rd_T31 l0 x10_1).f1) 0 50 true _ A8.out).mono ?_);rintro e w' ⟨rfl,⟨nd,rfl⟩⟩)|(go_at_call 90;(with_reducible refine (impl_isDate.calls ((rd_T31 l0 x10_1).f2) true _ A10.out).mono ?_);rintro e w' ⟨rfl,⟨nd,rfl⟩⟩)|(go_at_call 90;(with_reducible refine (impl_isDate.calls ((rd_T31 l0 x10_1).f3) true _ A12.out).mono ?_);rintro e w' ⟨rfl,⟨nd,rfl⟩⟩))
    go_roundg k1
    case measure=>have:=HK1.out;omega
    case rel=>exact ⟨(wrap64 (x10_1 + 1)),zo,H',⟨by have:=HK1.out;omega⟩,⟨zz72⟩⟩
   obtain rfl:=oi_ H
   have p281:0<=(x10_1:Int):=oz_
   have q281:x10_1<(l0.length:Int):=oz_
   obtain ⟨ad281,e281,hx281_0,hx281_1,hx281_2,hx281_3⟩:=at_T31 HR0.out x10_1 p281 q281
   cases e281
   replace hx281_0:=zh_ HB hx281_0
   replace hx281_1:=zh_ HB hx281_1
   replace hx281_2:=zh_ HB hx281_2
   replace hx281_3:=zh_ HB hx281_3
   replace p281:=eq_true p281
   replace q281:=eq_true q281
   go_wp2_with (first|((with_reducible refine gate_dst (N:=4) rfl ?_);refine box_event ?hg (N:=4) ?hd (cs:=#[.int .i64 0,.int .i64 0,.int .i64 0,.int .i64 0]) (t:=31) ?hr ?_;(case hd=>rfl);(case hg=>rfl);(case hr=>(go_simp;done));intro gb282 hg w16 hbox hb;have BK282:=ak_ (hbox);have GW282:=ak_ ((by rw [hg];exact (below_size zb):w.heap.size<=gb282));have GE282:=ak_ ((by rw [hg];exact (below_size zb):w.heap.size<=gb282));replace HB:=zb1 hb;clear hb hbox hg;obtain ⟨hcz17_0,hcz17_1,hcz17_2,hcz17_3,hfz17_0,hfz17_1,hfz17_2,hfz17_3⟩:=zk4 BK282.out)|((with_reducible refine gate_callee (f:=73) rfl ?_);refine zgo 16 Try.func73 #[.int .i64 ((rd_T31 l0 x10_1).f0),.int .i64 1,.int .i64 50] ?_;(with_reducible refine (impl_within.calls ((rd_T31 l0 x10_1).f0) 1 50 true _ A6.out).mono ?_);rintro e w' ⟨rfl,⟨nd,rfl⟩⟩;refine ⟨_,rfl,?_⟩)|(go_at_call 73;(with_reducible refine (impl_within.calls ((rd_T31 l0 x10_1).f1) 0 50 true _ A8.out).mono ?_);rintro e w' ⟨rfl,⟨nd,rfl⟩⟩)|(go_at_call 90;(with_reducible refine (impl_isDate.calls ((rd_T31 l0 x10_1).f2) true _ A10.out).mono ?_);rintro e w' ⟨rfl,⟨nd,rfl⟩⟩)|(go_at_call 90;(with_reducible refine (impl_isDate.calls ((rd_T31 l0 x10_1).f3) false _ A12.out).mono ?_);rintro e w' ⟨rfl,⟨nd,rfl⟩⟩))
   go_ret
   exact ⟨zz0,zz72⟩
