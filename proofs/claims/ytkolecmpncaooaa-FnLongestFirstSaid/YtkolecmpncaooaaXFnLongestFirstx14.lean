-- Words and walks of this claim.
import Derived.Test.YtkolecmpncaooaaXFnLongestFirstx0
namespace Go.Proofs.Ytkolecmpncaooaa.XFnLongestFirst
open Go.RowKit Go.Proofs.YtkolecmpncaooaaW.PrintWords Go.Proofs.YtkolecmpncaooaaW.PrintLast Go.Proofs.YtkolecmpncaooaaW.PrintMore
attribute [local go_sem] max2_int min2_int max_two min_two max_three min_three max_four min_four
attribute [local go_sem] idxA_51_0 idxA_51_1 fldS_45_0 fldS_45_1 fldS_45_2 fldS_96_0 fldS_96_1 fldS_96_2
set_option linter.unusedVariables false
set_option linter.unusedSimpArgs false
mutual
def spec_l4Table.l0:Nat->Int->List (S51)->List (List Bool)->Int->Option ((List (List Bool)))
 | 0,_,_,_,_=>none
 | k + 1,x0,x1,x5,x6=>if x6<x0 then (if 0<=x0 then (if (x0:Int).toNat<=281474976710656 then (if x5.length<5864062014805 then (spec_l4Table.l0 k x0 x1 (x5++[(List.replicate (x0:Int).toNat false)]) (wrap64 (x6 + 1))) else (none)) else (none)) else (none)) else (spec_l4Table.l1 k x0 x1 x5 0)
def spec_l4Table.l1:Nat->Int->List (S51)->List (List Bool)->Int->Option ((List (List Bool)))
 | 0,_,_,_,_=>none
 | k + 1,x0,x1,x5,x7=>if x7<(x1.length:Int) then (if 0<=x7 then (if 0<=((rd_T51 x1 x7).f0) then (if ((rd_T51 x1 x7).f0)<(x5.length:Int) then (if 0<=((rd_T51 x1 x7).f1) then (if ((rd_T51 x1 x7).f1)<((rd_L4 x5 ((rd_T51 x1 x7).f0)).length:Int) then (spec_l4Table.l1 k x0 x1 (x5.set (((rd_T51 x1 x7).f0):Int).toNat ((rd_L4 x5 ((rd_T51 x1 x7).f0)).set (((rd_T51 x1 x7).f1):Int).toNat true)) (wrap64 (x7 + 1))) else (none)) else (none)) else (none)) else (none)) else (none)) else (spec_l4Table.l2 k x0 x5 0)
def spec_l4Table.l2:Nat->Int->List (List Bool)->Int->Option ((List (List Bool)))
 | 0,_,_,_=>none
 | k + 1,x0,x5,x8=>if x8<x0 then (spec_l4Table.l3 k x0 x5 x8 0) else (some x5)
def spec_l4Table.l3:Nat->Int->List (List Bool)->Int->Int->Option ((List (List Bool)))
 | 0,_,_,_,_=>none
 | k + 1,x0,x5,x8,x9=>if x9<x0 then (spec_l4Table.l4 k x0 x5 x8 x9 0) else (spec_l4Table.l2 k x0 x5 (wrap64 (x8 + 1)))
def spec_l4Table.l4:Nat->Int->List (List Bool)->Int->Int->Int->Option ((List (List Bool)))
 | 0,_,_,_,_,_=>none
 | k + 1,x0,x5,x8,x9,x10=>if x10<x0 then (if 0<=x9 then (if x9<(x5.length:Int) then (if 0<=x8 then (if x8<((rd_L4 x5 x9).length:Int) then (if rdOf false (rd_L4 x5 x9) x8=true then (if x8<(x5.length:Int) then (if 0<=x10 then (if x10<((rd_L4 x5 x8).length:Int) then (if rdOf false (rd_L4 x5 x8) x10=true then (if x10<((rd_L4 x5 x9).length:Int) then (spec_l4Table.l4 k x0 (x5.set (x9:Int).toNat ((rd_L4 x5 x9).set (x10:Int).toNat true)) x8 x9 (wrap64 (x10 + 1))) else (none)) else (spec_l4Table.l4 k x0 x5 x8 x9 (wrap64 (x10 + 1)))) else (none)) else (none)) else (none)) else (spec_l4Table.l4 k x0 x5 x8 x9 (wrap64 (x10 + 1)))) else (none)) else (none)) else (none)) else (none)) else (spec_l4Table.l3 k x0 x5 x8 (wrap64 (x9 + 1)))
end
def spec_l4Table.f (k:Nat) (a0:Int) (l1:List (S51)):Option ((List (List Bool))):=spec_l4Table.l0 k a0 l1 (([]:List (List Bool))) 0
def spec_l4Table.T9:Bool × List (List Nat × List Nat):=(true,[([],[]),([],[]),([],[]),([1,2],[1,2]),([3],[3]),([4],[4]),([0,5],[0,5]),([6],[6]),([],[]),([],[]),([8,9],[8,9]),([10],[10]),([11],[11]),([7,12,0,1,2,3,4,5,6,7,8,9,10,11,12],[7,12]),([13,0,1,2,3,4,5,6,7,8,9,10,11,12],[13])])
def spec_l4Table.B9:List Nat:=[0,0,0,6,14,30,63,127,0,0,768,1792,3840,8191,16383]
theorem spec_l4Table.tab9:rtab .any (opsOf Try.f80 9)=spec_l4Table.T9:=by kernel_rfl
theorem spec_l4Table.bits9:waitsOk spec_l4Table.T9.2 spec_l4Table.B9=true:=by kernel_rfl
set_option maxHeartbeats 8000000 in
set_option maxRecDepth 100000 in
theorem spec_l4Table.calls (k:Nat) (a0:Int) (A1:Option Addr) (c1:Nat) (l1:List (S51)) (r:List (List Bool)) (w:World) (hr1:Kd.C k51 w A1 l1.length l1) (hc1:l1.length<=c1) (h:spec_l4Table.f k a0 l1=some r) :
  Calls Try.prog 80 #[.int .i64 a0,.slice A1 l1.length c1] w fun e w'=>∃ v0_:Value,e=.returned (v0_)/\Kd.S (Kd.slice 4 Kd.bool) 82 w' w.heap.size (fun _=>True) v0_ r/\Below w.heap.size w w':=by
 have HR1:=ak_ hr1
 have HC1:=ak_ hc1
 clear hr1 hc1
 have HB:=ak_ (Below.refl w.heap.size w)
 have H:(spec_l4Table.l0 k a0 l1 (([]:List (List Bool))) 0)=some r:=h
 clear h
 generalize hy345:(([]:List (List Bool)):List (List Bool))=y345 at H
 have Ny345:=ak_ hy345.symm
 clear hy345
 have H':=ak_ H
 clear H
 go_enter Try.func80,Try.ntmps80
 go_wp2_with (((with_reducible refine gate_dst (N:=11) rfl ?_);refine Kd.S_lit (Kd.slice 4 Kd.bool) _ 82 ?hg (N:=11) ?hd (xs:=([]:List (List Bool))) (inner:=[]) (ok:=fun _=>True) (okp:=fun _=>True) ?hr ?hp (fun _ hk=>hk) trivial (Below.refl _ _) (Nat.le_refl _) (by simp) ?_;(case hd=>rfl);(case hg=>rfl);(case hr=>(go_simp;done));(case hp=>exact (Reps.none _ _));intro v346 w3 ho4 hb hg_ hnew_;clear hg_ hnew_;(rw [<-Ny345.out] at ho4);have HO347:=ak_ (Kd.S_lower ho4 (below_size zb));replace HB:=zb1 hb;clear hb ho4))
 go_loopg [5,6] k (fun kq v5 v6 w'=>∃ (x5_1:List (List Bool)) (x6_1:Int),v6=.int .i64 x6_1/\Aside0 (spec_l4Table.l0 kq a0 l1 x5_1 x6_1=some r)/\Aside0 (kq<=k)/\Aside0 (Kd.S (Kd.slice 4 Kd.bool) 82 w' w.heap.size (fun _=>True) v5 x5_1)/\Aside0 (Below w.heap.size w w'))
 case atStart=>exact ⟨(y345),(0),zo,H',⟨Nat.le_refl _⟩,⟨zS HO347.out⟩,⟨zb⟩⟩
 case round=>
  clear H'
  obtain ⟨x5_1,x6_1,rfl,HA,HK1,HO_5,HB⟩:=hrel
  cases gk with
  | zero=>exact absurd HA.out (by simp [spec_l4Table.l0])
  | succ k1=>
   have H:=HA.out
   clear HA
   simp only [spec_l4Table.l0] at H
   replace H:=gPD H;rcases H with ⟨c5b0,H⟩ | ⟨c5b0,H⟩
   ·replace H:=gE H;obtain ⟨c6b0,c6b1,H⟩:=H
    replace H:=gE H;obtain ⟨c7b0,c7b1,H⟩:=H
    generalize hy348:(List.replicate (a0:Int).toNat false:List Bool)=y348 at H
    have Ny348:=ak_ hy348.symm
    clear hy348
    replace H:=gL H;obtain ⟨LMc8,H⟩:=H
    generalize hy351:(x5_1++[y348]:List (List Bool))=y351 at H
    have Ny351:=ak_ hy351.symm
    clear hy351
    have H':=ak_ H
    clear H
    go_wp2_with (first|((with_reducible refine gate_dst (N:=19) rfl ?_);refine Kd.R_make Kd.bool _ 4 rfl (N:=19) rfl 82 _ _ rfl a0 rfl rfl Try.underlying82 (.bool false) 1 info4 rfl (by decide) (by omega) false (ok:=fun _=>True) (okp:=fun _=>True) rfl (fun _ hk=>hk) trivial (oz_) (Nat.le_trans (Nat.mul_le_mul_right _ (oz_:a0.toNat<=281474976710656)) (by omega)) (Below.refl _ _) (Nat.le_refl _) ?_;intro v349 w9 ho10 hb hg_ hnew_;clear hg_ hnew_;(rw [<-Ny348.out] at ho10);replace HO_5:=ak_ (Kd.S_elder' (zS HO_5.out) (Kd.R_base ho10) hb);have HO350:=ak_ (Kd.R_lower ho10 (below_size zb));replace HB:=zb1 hb;clear hb ho10;obtain ⟨Ao12,co12,eo12⟩:=Kd.R_slice HO350.out;subst eo12)|((with_reducible refine gate_builtin (b:=.append) (xs:=#[.tmp 17,.tmp 20]) rfl ?_);at_builtin;refine Kd.S_append (Kd.slice 4 Kd.bool) (w0:=w) w.heap.size rfl (.tmp 17) (.tmp 20) 80 82 (.slice none 0 0) 24 rfl Try.underlying80 info82 rfl (by decide) (by omega) u5 x5_1 y348 [.slice Ao12 y348.length co12] (fun _=>True) (fun k_=>some k_=(.slice Ao12 y348.length co12:Value).ownBlock) rfl rfl ?aP (fun k_ hk_=>((Kd.R_mono (ok':=fun k_=>((fun _=>True)) k_/\some k_≠(u5:Value).ownBlock) (Kd.R_apart' (HO350.out) (Kd.S_typed HO_5.out) (by decide)) (fun k_ hk=>⟨trivial,hk.2⟩))).1 k_ hk_.symm) ?aF ?aO ?aB ?aS ?aL ?_;(case aP=>exact Kd.M_row (Kd.R_mono (Kd.R_tight rfl (Kd.R_mono (ok':=fun k_=>((fun _=>True)) k_/\some k_≠(u5:Value).ownBlock) (Kd.R_apart' (HO350.out) (Kd.S_typed HO_5.out) (by decide)) (fun k_ hk=>⟨trivial,hk.2⟩))) (fun _ h_=>h_)));(case aB=>exact zb);(case aF=>exact (fun _ _=>trivial));(case aO=>exact (zS (Kd.S_mono HO_5.out (fun k_ hk=>⟨trivial,fun e_=>hk.2 e_⟩))));(case aS=>exact (below_size zb));(case aL=>have:=LMc8.out;omega);intro v352 w11 ho hb hg hat;rw [<-Ny351.out] at ho;replace HB:=ak_ (hb);have HO353:=ak_ (ho);clear HO_5 HO350;clear ho hb hg hat))
    go_roundg k1
    case measure=>have:=HK1.out;omega
    case rel=>exact ⟨(y351),(wrap64 (x6_1 + 1)),zo,H',⟨by have:=HK1.out;omega⟩,⟨zS HO353.out⟩,⟨zb⟩⟩
   have H':=ak_ H
   clear H
   go_wp2
   go_loopg [7] k1 (fun kq v7 w'=>∃ (x5_2:List (List Bool)) (x7_2:Int),v7=.int .i64 x7_2/\Aside0 (spec_l4Table.l1 kq a0 l1 x5_2 x7_2=some r)/\Aside0 (kq<=k1)/\Aside0 (Kd.S (Kd.slice 4 Kd.bool) 82 w' w.heap.size (fun _=>True) u5 x5_2)/\Aside0 (Below w.heap.size w w'))
   case atStart=>exact ⟨(x5_1),(0),zo,H',⟨Nat.le_refl _⟩,⟨zS HO_5.out⟩,⟨zb⟩⟩
   case round=>
    clear H'
    obtain ⟨x5_2,x7_2,rfl,HA,HK2,HO_5,HB⟩:=hrel
    cases gk with
    | zero=>exact absurd HA.out (by simp [spec_l4Table.l1])
    | succ k2=>
     have H:=HA.out
     clear HA
     simp only [spec_l4Table.l1] at H
     replace H:=gPD H;rcases H with ⟨c13b0,H⟩ | ⟨c13b0,H⟩
     ·replace H:=gD H;obtain ⟨c14b0,H⟩:=H
      replace H:=gD H;obtain ⟨c15b0,H⟩:=H
      replace H:=gD H;obtain ⟨c16b0,H⟩:=H
      replace H:=gD H;obtain ⟨c17b0,H⟩:=H
      replace H:=gD H;obtain ⟨c18b0,H⟩:=H
      generalize hy357:((rd_L4 x5_2 ((rd_T51 l1 x7_2).f0)).set (((rd_T51 l1 x7_2).f1):Int).toNat true:List Bool)=y357 at H
      have Ny357:=ak_ hy357.symm
      clear hy357
      generalize hy359:(x5_2.set (((rd_T51 l1 x7_2).f0):Int).toNat y357:List (List Bool))=y359 at H
      have Ny359:=ak_ hy359.symm
      clear hy359
      have H':=ak_ H
      clear H
      try go_wp2
      replace HO_5:=ak_ (Kd.S_drew HO_5.out)
      replace HB:=ak_ (below_drew1 HB.out)
      have p354:0<=(x7_2:Int):=oz_
      have q354:x7_2<(l1.length:Int):=oz_
      obtain ⟨ad354,e354,hx354_0,hx354_1⟩:=at_T51 HR1.out x7_2 p354 q354
      have hw354_1:=hx354_1
      have hw354_0:=hx354_0
      cases e354
      replace hx354_0:=zh_ HB hx354_0
      replace hx354_1:=zh_ HB hx354_1
      replace p354:=eq_true p354
      replace q354:=eq_true q354
      obtain ⟨Ao21,co21,eo21⟩:=Kd.S_slice HO_5.out
      (subst eo21)
      have p355:0<=(((rd_T51 l1 x7_2).f0):Int):=oz_
      have q355:((rd_T51 l1 x7_2).f0)<(x5_2.length:Int):=oz_
      obtain ⟨ad355,A355_0,c355_0,e355,hx355_0,hl355_0,hi355_0⟩:=at_L4 (Kd.S_reads' HO_5.out).2.2 ((rd_T51 l1 x7_2).f0) p355 q355
      cases e355
      obtain ⟨ce355,hce355,hMe355,hcc355⟩:=Kd.S_get HO_5.out [] ((rd_T51 l1 x7_2).f0) p355 (by exact q355)
      obtain ⟨ve355_0,rfl,ge355_0⟩:=hMe355
      have hv355_0:=hcc355 0 _ rfl
      rw [Nat.add_zero,show ((Kd.slice 4 Kd.bool)).sz=1 from rfl,Nat.mul_one] at hv355_0
      replace hv355_0:=oi_ (hv355_0.symm.trans hx355_0)
      rw [hv355_0] at ge355_0
      have HL355_0:=ak_ (show Kd.R Kd.bool 4 _ _ _ _ (rd_L4 x5_2 ((rd_T51 l1 x7_2).f0)) from ge355_0)
      clear hv355_0 ge355_0
      have HX355_0:=ak_ hx355_0
      clear hcc355 hce355
      have HR355_0:=ak_ hi355_0
      have HC355_0:=ak_ hl355_0
      clear hi355_0 hl355_0
      replace p355:=eq_true p355
      replace q355:=eq_true q355
      have p356:0<=(x7_2:Int):=oz_
      have q356:x7_2<(l1.length:Int):=oz_
      obtain ⟨ad356,e356,hx356_0,hx356_1⟩:=at_T51 HR1.out x7_2 p356 q356
      have hw356_1:=hx356_1
      have hw356_0:=hx356_0
      obtain rfl:ad354=ad356:=(by injection e356)
      replace hx356_0:=zh_ HB hx356_0
      replace hx356_1:=zh_ HB hx356_1
      replace p356:=eq_true p356
      replace q356:=eq_true q356
      have p19:0<=(((rd_T51 l1 x7_2).f1):Int):=oz_
      have q19:(((rd_T51 l1 x7_2).f1):Int)<(((rd_L4 x5_2 ((rd_T51 l1 x7_2).f0)).length:Int):Int):=oz_
      obtain ⟨go19,co19,eo19,gb19,gl19,cl19,HG19⟩:=Kd.R_form HL355_0.out (by omega)
      (cases eo19)
      have GB19:=ak_ gb19
      have GG19:=ak_ HG19
      clear gb19 gl19 HG19
      obtain ⟨hx19_0,hf19_0⟩:=Kd.R_celln false HL355_0.out (((rd_T51 l1 x7_2).f1):Int) p19 q19
      replace p19:=eq_true p19
      replace q19:=eq_true q19
      have hq22:(((rd_T51 l1 x7_2).f0):Int)<(x5_2.length:Int):=(by have h_:(((rd_T51 l1 x7_2).f0):Int)<((x5_2.length:Int):Int):=oz_;exact h_)
      obtain ⟨oki22,ce22,hcl22,hM22,hcc22,hok22,hbk22⟩:=Kd.S_borrow HO_5.out [] (((rd_T51 l1 x7_2).f0):Int) (oz_) hq22
      obtain ⟨ve22_0,rfl,ge22_0⟩:=hM22
      have hv22:=hcc22 0 _ rfl
      rw [Nat.add_zero,show ((Kd.slice 4 Kd.bool)).sz=1 from rfl,Nat.mul_one] at hv22
      replace hv22:=oi_ (hv22.symm.trans HX355_0.out)
      subst hv22
      clear hcc22 hcl22
      replace ge22_0:=(show Kd.R Kd.bool 4 _ _ _ _ (rd_L4 x5_2 ((rd_T51 l1 x7_2).f0)) from ge22_0)
      have HP22:=Kd.R_putg ge22_0 (((rd_T51 l1 x7_2).f1):Int) true
      rw [<-Ny357.out] at HP22
      have HS22:=hbk22 HP22.2 (fun k_ e_=>by injection e_ with e_;subst e_;exact ge22_0.1 _ rfl) (x':=y357) (Kd.M_row HP22.1)
      rw [<-Ny359.out] at HS22
      have HQ22:=ak_ HS22
      clear HP22 HS22 hbk22 hok22
      refine start_ (n:=15) (S:=fun w'=>w'.cell? (ad354.add ((x7_2).toNat * 2))=some (.int .i64 ((rd_T51 l1 x7_2).f0))/\w'.cell? ⟨(ad354.add ((x7_2).toNat * 2)).block,(ad354.add ((x7_2).toNat * 2)).off + 1,none⟩=some (.int .i64 ((rd_T51 l1 x7_2).f1))/\w'.cell? (ad355.add (((rd_T51 l1 x7_2).f0)).toNat)=some (.slice (some ⟨go19,0,none⟩) (rd_L4 x5_2 ((rd_T51 l1 x7_2).f0)).length c355_0)/\w'.cell? (ad354.add ((x7_2).toNat * 2))=some (.int .i64 ((rd_T51 l1 x7_2).f0))/\w'.cell? ⟨(ad354.add ((x7_2).toNat * 2)).block,(ad354.add ((x7_2).toNat * 2)).off + 1,none⟩=some (.int .i64 ((rd_T51 l1 x7_2).f1))) (ds:=[14]) #[false,false,false,false,false,false,false,false,false,false,false,false,false,false,false] (by kernel_rfl) rfl rfl ⟨(zq_ HB hw354_0),(zq_ HB hw354_1),hx355_0,(zq_ HB hw356_0),(zq_ HB hw356_1)⟩ (fun hHeld=>?_);refine with_tabW spec_l4Table.tab9 spec_l4Table.bits9 (fun HT_ HW_=>?_)
      generalize wr.drew=w20 at HO_5 HB GG19 HL355_0 HQ22 HR355_0 HX355_0 hf19_0 hx19_0 hx354_0 hx354_1 hx355_0 hx356_0 hx356_1 hHeld ⊢
      refine pu_ 0 28 ?_
      refine pu_ 1 29 ?_
      refine pu_ 2 30 ?_
      refine pu_ 3 31 ?_
      refine pu_ 4 32 ?_
      refine pu_ 8 36 ?_
      refine pu_ 9 37 ?_
      refine pu_ 10 38 ?_
      refine pu_ 11 39 ?_
      refine tk_ 5 33 hHeld ?_
      refine pu_ 6 34 ?_
      refine tk_ 7 35 hHeld ?_
      refine tk_ 12 40 hHeld ?_
      refine pu_ 13 41 ?_
      refine last_ (i:=14) (N:=none) #[true,true,true,true,true,true,true,true,true,true,true,true,true,true,true] rfl rfl (one_of HT_.out (by kernel_rfl)) (by decide) (fun K hK=>?_)
      refine skip_ (w1:=?_) (by rfl) rfl ?_ ?_
      rotate_left
      ·go_simp
       rfl
      refine hK.out _ _ ?_
      clear hK K
      refine done_ (done_of HT_.out (by kernel_rfl)) ?_
      try go_wp2
      go_roundg k2
      case measure=>have:=HK1.out;have:=HK2.out;omega
      case rel=>exact ⟨(y359),(wrap64 (x7_2 + 1)),zo,H',⟨zz32⟩,⟨by (with_reducible repeat (apply Kd.S_alloc));exact HQ22.out⟩,⟨by repeat ((with_reducible first|exact HB.out|refine below_set ?_ GB19.out))⟩⟩
     have H':=ak_ H
     clear H
     go_wp2
     go_loopg [8] k2 (fun kq v8 w'=>∃ (x5_3:List (List Bool)) (x8_3:Int),v8=.int .i64 x8_3/\Aside0 (spec_l4Table.l2 kq a0 x5_3 x8_3=some r)/\Aside0 (kq<=k2)/\Aside0 (Kd.S (Kd.slice 4 Kd.bool) 82 w' w.heap.size (fun _=>True) u5 x5_3)/\Aside0 (Below w.heap.size w w'))
     case atStart=>exact ⟨(x5_2),(0),zo,H',⟨Nat.le_refl _⟩,⟨zS HO_5.out⟩,⟨zb⟩⟩
     case round=>
      clear H'
      obtain ⟨x5_3,x8_3,rfl,HA,HK3,HO_5,HB⟩:=hrel
      cases gk with
      | zero=>exact absurd HA.out (by simp [spec_l4Table.l2])
      | succ k3=>
       have H:=HA.out
       clear HA
       simp only [spec_l4Table.l2] at H
       replace H:=gND H;rcases H with ⟨c24b0,H⟩ | ⟨c24b0,H⟩
       ·obtain rfl:=oi_ H
        go_wp2
        go_ret
        exact ⟨_,zz0,zS HO_5.out,zb⟩
       have H':=ak_ H
       clear H
       go_wp2
       go_loopg [9] k3 (fun kq v9 w'=>∃ (x5_4:List (List Bool)) (x9_4:Int),v9=.int .i64 x9_4/\Aside0 (spec_l4Table.l3 kq a0 x5_4 x8_3 x9_4=some r)/\Aside0 (kq<=k3)/\Aside0 (Kd.S (Kd.slice 4 Kd.bool) 82 w' w.heap.size (fun _=>True) u5 x5_4)/\Aside0 (Below w.heap.size w w'))
       case atStart=>exact ⟨(x5_3),(0),zo,H',⟨Nat.le_refl _⟩,⟨zS HO_5.out⟩,⟨zb⟩⟩
       case round=>
        clear H'
        obtain ⟨x5_4,x9_4,rfl,HA,HK4,HO_5,HB⟩:=hrel
        cases gk with
        | zero=>exact absurd HA.out (by simp [spec_l4Table.l3])
        | succ k4=>
         have H:=HA.out
         clear HA
         simp only [spec_l4Table.l3] at H
         replace H:=gND H;rcases H with ⟨c25b0,H⟩ | ⟨c25b0,H⟩
         ·have H':=ak_ H
          clear H
          go_wp2
          go_roundg k4
          case measure=>have:=HK1.out;have:=HK2.out;have:=HK3.out;have:=HK4.out;omega
          case rel=>exact ⟨(x5_4),(wrap64 (x8_3 + 1)),zo,H',⟨by have:=HK1.out;have:=HK2.out;have:=HK3.out;have:=HK4.out;omega⟩,⟨zS HO_5.out⟩,⟨zb⟩⟩
         have H':=ak_ H
         clear H
         go_wp2
         go_loopg [10] k4 (fun kq v10 w'=>∃ (x5_5:List (List Bool)) (x10_5:Int),v10=.int .i64 x10_5/\Aside0 (spec_l4Table.l4 kq a0 x5_5 x8_3 x9_4 x10_5=some r)/\Aside0 (kq<=k4)/\Aside0 (Kd.S (Kd.slice 4 Kd.bool) 82 w' w.heap.size (fun _=>True) u5 x5_5)/\Aside0 (Below w.heap.size w w'))
         case atStart=>exact ⟨(x5_4),(0),zo,H',⟨Nat.le_refl _⟩,⟨zS HO_5.out⟩,⟨zb⟩⟩
         case round=>
          clear H'
          obtain ⟨x5_5,x10_5,rfl,HA,HK5,HO_5,HB⟩:=hrel
          cases gk with
          | zero=>exact absurd HA.out (by simp [spec_l4Table.l4])
          | succ k5=>
           have H:=HA.out
           clear HA
           simp only [spec_l4Table.l4] at H
           replace H:=gND H;rcases H with ⟨c26b0,H⟩ | ⟨c26b0,H⟩
           ·have H':=ak_ H
            clear H
            go_wp2
            go_roundg k5
            case measure=>have:=HK1.out;have:=HK2.out;have:=HK3.out;have:=HK4.out;have:=HK5.out;omega
            case rel=>exact ⟨(x5_5),(wrap64 (x9_4 + 1)),zo,H',⟨zz60⟩,⟨zS HO_5.out⟩,⟨zb⟩⟩
           replace H:=gD H;obtain ⟨c27b0,H⟩:=H
           replace H:=gD H;obtain ⟨c28b0,H⟩:=H
           replace H:=gD H;obtain ⟨c29b0,H⟩:=H
           replace H:=gD H;obtain ⟨c30b0,H⟩:=H
           obtain ⟨bq31,hbq31⟩:∃ b_:Bool,b_=(rdOf false (rd_L4 x5_5 x9_4) x8_3):=⟨_,rfl⟩
           replace H:(if bq31=true then (if x8_3<(x5_5.length:Int) then (if 0<=x10_5 then (if x10_5<((rd_L4 x5_5 x8_3).length:Int) then (if rdOf false (rd_L4 x5_5 x8_3) x10_5=true then (if x10_5<((rd_L4 x5_5 x9_4).length:Int) then (spec_l4Table.l4 k5 a0 (x5_5.set (x9_4:Int).toNat ((rd_L4 x5_5 x9_4).set (x10_5:Int).toNat true)) x8_3 x9_4 (wrap64 (x10_5 + 1))) else (none)) else (spec_l4Table.l4 k5 a0 x5_5 x8_3 x9_4 (wrap64 (x10_5 + 1)))) else (none)) else (none)) else (none)) else (spec_l4Table.l4 k5 a0 x5_5 x8_3 x9_4 (wrap64 (x10_5 + 1))))=some r:=by rw [<-hbq31] at H;exact H
           have Nbq31:=ak_ hbq31
           clear hbq31
           replace H:=gNB H;rcases H with ⟨rfl,H⟩ | ⟨rfl,H⟩
           ·have H':=ak_ H
            clear H
            obtain ⟨Ao44,co44,eo44⟩:=Kd.S_slice HO_5.out
            subst eo44
            have p360:0<=(x9_4:Int):=oz_
            have q360:x9_4<(x5_5.length:Int):=oz_
            obtain ⟨ad360,A360_0,c360_0,e360,hx360_0,hl360_0,hi360_0⟩:=at_L4 (Kd.S_reads' HO_5.out).2.2 x9_4 p360 q360
            cases e360
            obtain ⟨ce360,hce360,hMe360,hcc360⟩:=Kd.S_get HO_5.out [] x9_4 p360 (by exact q360)
            obtain ⟨ve360_0,rfl,ge360_0⟩:=hMe360
            have hv360_0:=hcc360 0 _ rfl
            rw [Nat.add_zero,show ((Kd.slice 4 Kd.bool)).sz=1 from rfl,Nat.mul_one] at hv360_0
            replace hv360_0:=oi_ (hv360_0.symm.trans hx360_0)
            rw [hv360_0] at ge360_0
            have HL360_0:=ak_ (show Kd.R Kd.bool 4 _ _ _ _ (rd_L4 x5_5 x9_4) from ge360_0)
            clear hv360_0 ge360_0
            have HX360_0:=ak_ hx360_0
            clear hcc360 hce360
            have HR360_0:=ak_ hi360_0
            have HC360_0:=ak_ hl360_0
            clear hi360_0 hl360_0
            replace p360:=eq_true p360
            replace q360:=eq_true q360
            have p361:0<=(x8_3:Int):=oz_
            have q361:x8_3<((rd_L4 x5_5 x9_4).length:Int):=oz_
            obtain ⟨ad361,e361,hx361_0⟩:=Kd.at_bool zz85 x8_3 p361 q361
            (try rw [<-Nbq31.out] at hx361_0)
            cases e361
            replace p361:=eq_true p361
            replace q361:=eq_true q361
            go_wp2
            go_roundg k5
            case measure=>have:=HK1.out;have:=HK2.out;have:=HK3.out;have:=HK4.out;have:=HK5.out;omega
            case rel=>exact ⟨(x5_5),(wrap64 (x10_5 + 1)),zo,H',⟨zz60⟩,⟨zS HO_5.out⟩,⟨zb⟩⟩
           replace H:=gD H;obtain ⟨c33b0,H⟩:=H
           replace H:=gD H;obtain ⟨c34b0,H⟩:=H
           replace H:=gD H;obtain ⟨c35b0,H⟩:=H
           obtain ⟨bq36,hbq36⟩:∃ b_:Bool,b_=(rdOf false (rd_L4 x5_5 x8_3) x10_5):=⟨_,rfl⟩
           replace H:(if bq36=true then (if x10_5<((rd_L4 x5_5 x9_4).length:Int) then (spec_l4Table.l4 k5 a0 (x5_5.set (x9_4:Int).toNat ((rd_L4 x5_5 x9_4).set (x10_5:Int).toNat true)) x8_3 x9_4 (wrap64 (x10_5 + 1))) else (none)) else (spec_l4Table.l4 k5 a0 x5_5 x8_3 x9_4 (wrap64 (x10_5 + 1))))=some r:=by rw [<-hbq36] at H;exact H
           have Nbq36:=ak_ hbq36
           clear hbq36
           replace H:=gNB H;rcases H with ⟨rfl,H⟩ | ⟨rfl,H⟩
           ·have H':=ak_ H
            clear H
            obtain ⟨Ao43,co43,eo43⟩:=Kd.S_slice HO_5.out
            subst eo43
            have p360:0<=(x9_4:Int):=oz_
            have q360:x9_4<(x5_5.length:Int):=oz_
            obtain ⟨ad360,A360_0,c360_0,e360,hx360_0,hl360_0,hi360_0⟩:=at_L4 (Kd.S_reads' HO_5.out).2.2 x9_4 p360 q360
            cases e360
            obtain ⟨ce360,hce360,hMe360,hcc360⟩:=Kd.S_get HO_5.out [] x9_4 p360 (by exact q360)
            obtain ⟨ve360_0,rfl,ge360_0⟩:=hMe360
            have hv360_0:=hcc360 0 _ rfl
            rw [Nat.add_zero,show ((Kd.slice 4 Kd.bool)).sz=1 from rfl,Nat.mul_one] at hv360_0
            replace hv360_0:=oi_ (hv360_0.symm.trans hx360_0)
            rw [hv360_0] at ge360_0
            have HL360_0:=ak_ (show Kd.R Kd.bool 4 _ _ _ _ (rd_L4 x5_5 x9_4) from ge360_0)
            clear hv360_0 ge360_0
            have HX360_0:=ak_ hx360_0
            clear hcc360 hce360
            have HR360_0:=ak_ hi360_0
            have HC360_0:=ak_ hl360_0
            clear hi360_0 hl360_0
            replace p360:=eq_true p360
            replace q360:=eq_true q360
            have p361:0<=(x8_3:Int):=oz_
            have q361:x8_3<((rd_L4 x5_5 x9_4).length:Int):=oz_
            obtain ⟨ad361,e361,hx361_0⟩:=Kd.at_bool zz85 x8_3 p361 q361
            (try rw [<-Nbq31.out] at hx361_0)
            cases e361
            replace p361:=eq_true p361
            replace q361:=eq_true q361
            have p362:0<=(x8_3:Int):=oz_
            have q362:x8_3<(x5_5.length:Int):=oz_
            obtain ⟨ad362,A362_0,c362_0,e362,hx362_0,hl362_0,hi362_0⟩:=at_L4 (Kd.S_reads' HO_5.out).2.2 x8_3 p362 q362
            obtain rfl:ad360=ad362:=(by injection e362)
            obtain ⟨ce362,hce362,hMe362,hcc362⟩:=Kd.S_get HO_5.out [] x8_3 p362 (by exact q362)
            obtain ⟨ve362_0,rfl,ge362_0⟩:=hMe362
            have hv362_0:=hcc362 0 _ rfl
            rw [Nat.add_zero,show ((Kd.slice 4 Kd.bool)).sz=1 from rfl,Nat.mul_one] at hv362_0
            replace hv362_0:=oi_ (hv362_0.symm.trans hx362_0)
            rw [hv362_0] at ge362_0
            have HL362_0:=ak_ (show Kd.R Kd.bool 4 _ _ _ _ (rd_L4 x5_5 x8_3) from ge362_0)
            clear hv362_0 ge362_0
            have HX362_0:=ak_ hx362_0
            clear hcc362 hce362
            have HR362_0:=ak_ hi362_0
            have HC362_0:=ak_ hl362_0
            clear hi362_0 hl362_0
            replace p362:=eq_true p362
            replace q362:=eq_true q362
            have p363:0<=(x10_5:Int):=oz_
            have q363:x10_5<((rd_L4 x5_5 x8_3).length:Int):=oz_
            obtain ⟨ad363,e363,hx363_0⟩:=Kd.at_bool (by repeat ((with_reducible exact HR362_0.out))) x10_5 p363 q363
            (try rw [<-Nbq36.out] at hx363_0)
            cases e363
            replace p363:=eq_true p363
            replace q363:=eq_true q363
            go_wp2
            go_roundg k5
            case measure=>have:=HK1.out;have:=HK2.out;have:=HK3.out;have:=HK4.out;have:=HK5.out;omega
            case rel=>exact ⟨(x5_5),(wrap64 (x10_5 + 1)),zo,H',⟨zz60⟩,⟨zS HO_5.out⟩,⟨zb⟩⟩
           replace H:=gD H;obtain ⟨c38b0,H⟩:=H
           generalize hy365:((rd_L4 x5_5 x9_4).set (x10_5:Int).toNat true:List Bool)=y365 at H
           have Ny365:=ak_ hy365.symm
           clear hy365
           generalize hy367:(x5_5.set (x9_4:Int).toNat y365:List (List Bool))=y367 at H
           have Ny367:=ak_ hy367.symm
           clear hy367
           have H':=ak_ H
           clear H
           obtain ⟨Ao40,co40,eo40⟩:=Kd.S_slice HO_5.out
           subst eo40
           have p360:0<=(x9_4:Int):=oz_
           have q360:x9_4<(x5_5.length:Int):=oz_
           obtain ⟨ad360,A360_0,c360_0,e360,hx360_0,hl360_0,hi360_0⟩:=at_L4 (Kd.S_reads' HO_5.out).2.2 x9_4 p360 q360
           cases e360
           obtain ⟨ce360,hce360,hMe360,hcc360⟩:=Kd.S_get HO_5.out [] x9_4 p360 (by exact q360)
           obtain ⟨ve360_0,rfl,ge360_0⟩:=hMe360
           have hv360_0:=hcc360 0 _ rfl
           rw [Nat.add_zero,show ((Kd.slice 4 Kd.bool)).sz=1 from rfl,Nat.mul_one] at hv360_0
           replace hv360_0:=oi_ (hv360_0.symm.trans hx360_0)
           rw [hv360_0] at ge360_0
           have HL360_0:=ak_ (show Kd.R Kd.bool 4 _ _ _ _ (rd_L4 x5_5 x9_4) from ge360_0)
           clear hv360_0 ge360_0
           have HX360_0:=ak_ hx360_0
           clear hcc360 hce360
           have HR360_0:=ak_ hi360_0
           have HC360_0:=ak_ hl360_0
           clear hi360_0 hl360_0
           replace p360:=eq_true p360
           replace q360:=eq_true q360
           have p361:0<=(x8_3:Int):=oz_
           have q361:x8_3<((rd_L4 x5_5 x9_4).length:Int):=oz_
           obtain ⟨ad361,e361,hx361_0⟩:=Kd.at_bool zz85 x8_3 p361 q361
           (try rw [<-Nbq31.out] at hx361_0)
           cases e361
           replace p361:=eq_true p361
           replace q361:=eq_true q361
           have p362:0<=(x8_3:Int):=oz_
           have q362:x8_3<(x5_5.length:Int):=oz_
           obtain ⟨ad362,A362_0,c362_0,e362,hx362_0,hl362_0,hi362_0⟩:=at_L4 (Kd.S_reads' HO_5.out).2.2 x8_3 p362 q362
           obtain rfl:ad360=ad362:=(by injection e362)
           obtain ⟨ce362,hce362,hMe362,hcc362⟩:=Kd.S_get HO_5.out [] x8_3 p362 (by exact q362)
           obtain ⟨ve362_0,rfl,ge362_0⟩:=hMe362
           have hv362_0:=hcc362 0 _ rfl
           rw [Nat.add_zero,show ((Kd.slice 4 Kd.bool)).sz=1 from rfl,Nat.mul_one] at hv362_0
           replace hv362_0:=oi_ (hv362_0.symm.trans hx362_0)
           rw [hv362_0] at ge362_0
           have HL362_0:=ak_ (show Kd.R Kd.bool 4 _ _ _ _ (rd_L4 x5_5 x8_3) from ge362_0)
           clear hv362_0 ge362_0
           have HX362_0:=ak_ hx362_0
           clear hcc362 hce362
           have HR362_0:=ak_ hi362_0
           have HC362_0:=ak_ hl362_0
           clear hi362_0 hl362_0
           replace p362:=eq_true p362
           replace q362:=eq_true q362
           have p363:0<=(x10_5:Int):=oz_
           have q363:x10_5<((rd_L4 x5_5 x8_3).length:Int):=oz_
           obtain ⟨ad363,e363,hx363_0⟩:=Kd.at_bool (by repeat ((with_reducible exact HR362_0.out))) x10_5 p363 q363
           (try rw [<-Nbq36.out] at hx363_0)
           cases e363
           replace p363:=eq_true p363
           replace q363:=eq_true q363
           have p364:0<=(x9_4:Int):=oz_
           have q364:x9_4<(x5_5.length:Int):=oz_
           obtain ⟨ad364,A364_0,c364_0,e364,hx364_0,hl364_0,hi364_0⟩:=at_L4 (Kd.S_reads' HO_5.out).2.2 x9_4 p364 q364
           obtain rfl:ad360=ad364:=(by injection e364)
           obtain ⟨ce364,hce364,hMe364,hcc364⟩:=Kd.S_get HO_5.out [] x9_4 p364 (by exact q364)
           obtain ⟨ve364_0,rfl,ge364_0⟩:=hMe364
           have hv364_0:=hcc364 0 _ rfl
           rw [Nat.add_zero,show ((Kd.slice 4 Kd.bool)).sz=1 from rfl,Nat.mul_one] at hv364_0
           replace hv364_0:=oi_ (hv364_0.symm.trans hx364_0)
           rw [hv364_0] at ge364_0
           have HL364_0:=ak_ (show Kd.R Kd.bool 4 _ _ _ _ (rd_L4 x5_5 x9_4) from ge364_0)
           clear hv364_0 ge364_0
           have HX364_0:=ak_ hx364_0
           clear hcc364 hce364
           have HR364_0:=ak_ hi364_0
           have HC364_0:=ak_ hl364_0
           clear hi364_0 hl364_0
           replace p364:=eq_true p364
           replace q364:=eq_true q364
           have ea_:=oi_ (hx360_0.symm.trans hx364_0)
           injection ea_ with ea_ en_ ec_
           subst ea_
           subst ec_
           clear en_
           have p39:0<=(x10_5:Int):=oz_
           have q39:(x10_5:Int)<(((rd_L4 x5_5 x9_4).length:Int):Int):=oz_
           obtain ⟨go39,co39,eo39,gb39,gl39,cl39,HG39⟩:=Kd.R_form HL364_0.out (by omega)
           (cases eo39)
           have GB39:=ak_ gb39
           have GG39:=ak_ HG39
           clear gb39 gl39 HG39
           (simp only [add_plain] at hx361_0)
           obtain ⟨hx39_0,hf39_0⟩:=Kd.R_celln false HL364_0.out (x10_5:Int) p39 q39
           replace p39:=eq_true p39
           replace q39:=eq_true q39
           have hq41:(x9_4:Int)<(x5_5.length:Int):=(by have h_:(x9_4:Int)<((x5_5.length:Int):Int):=oz_;exact h_)
           obtain ⟨oki41,ce41,hcl41,hM41,hcc41,hok41,hbk41⟩:=Kd.S_borrow HO_5.out [] (x9_4:Int) (oz_) hq41
           obtain ⟨ve41_0,rfl,ge41_0⟩:=hM41
           have hv41:=hcc41 0 _ rfl
           rw [Nat.add_zero,show ((Kd.slice 4 Kd.bool)).sz=1 from rfl,Nat.mul_one] at hv41
           replace hv41:=oi_ (hv41.symm.trans HX364_0.out)
           subst hv41
           clear hcc41 hcl41
           replace ge41_0:=(show Kd.R Kd.bool 4 _ _ _ _ (rd_L4 x5_5 x9_4) from ge41_0)
           have HP41:=Kd.R_putg ge41_0 (x10_5:Int) true
           go_wp2_with (((with_reducible refine gate_store (t:=4) (p:=78) rfl ?_);refine store_event (t:=4) (p:=78) (v:=?vo_w42) (w1:=(wr.setCell ⟨go39,(x10_5:Int).toNat,none⟩ (.bool true))) ?hg ?ho ?hn ?hr ?_;(case ho=>rfl);(case hg=>rfl);(case hn=>rfl);(case hr=>(go_simp;done));intro w42 hw;have hg:wr.grownBy w42 (some go39):=(by rw [hw];exact HP41.2);have hz_:Kd.R Kd.bool 4 w42 w.heap.size oki41 (.slice (some ⟨go39,0,none⟩) (rd_L4 x5_5 x9_4).length c360_0) y365:=(by rw [hw,Ny365.out];exact HP41.1);have hp_:Kd.S (Kd.slice 4 Kd.bool) 82 w42 w.heap.size (fun _=>True) (.slice (some ad360) x5_5.length co40) y367:=(by rw [Ny367.out];exact hbk41 hg (fun k_ e_=>by injection e_ with e_;subst e_;exact ge41_0.1 _ rfl) (Kd.M_row hz_));have hm_:=Kd.R_mono hz_ hok41;clear HP41 hbk41;replace HO_5:=ak_ (hp_);replace HB:=ak_ ((by rw [hw];exact below_set (HB.out) GB39.out:Below w.heap.size w w42));have HL368:=ak_ (hm_);have HC366:=ak_ ((Kd.R_reads' hm_).2.1);clear HL360_0 HL362_0 HL364_0;clear hg hw hp_ hz_ hm_ hok41))
           go_roundg k5
           case measure=>have:=HK1.out;have:=HK2.out;have:=HK3.out;have:=HK4.out;have:=HK5.out;omega
           case rel=>exact ⟨(y367),(wrap64 (x10_5 + 1)),zo,H',⟨zz60⟩,⟨zS HO_5.out⟩,⟨zb⟩⟩
