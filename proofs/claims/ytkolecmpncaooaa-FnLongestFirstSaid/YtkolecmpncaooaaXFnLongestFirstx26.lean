-- Words and walks of this claim.
import Derived.Test.YtkolecmpncaooaaXFnLongestFirstx18
import Derived.Test.YtkolecmpncaooaaXFnLongestFirstx25
namespace Go.Proofs.Ytkolecmpncaooaa.XFnLongestFirst
open Go.RowKit Go.Proofs.YtkolecmpncaooaaW.PrintWords Go.Proofs.YtkolecmpncaooaaW.PrintLast Go.Proofs.YtkolecmpncaooaaW.PrintMore
attribute [local go_sem] max2_int min2_int max_two min_two max_three min_three max_four min_four
attribute [local go_sem] idxA_51_0 idxA_51_1 fldS_45_0 fldS_45_1 fldS_45_2 fldS_96_0 fldS_96_1 fldS_96_2
set_option linter.unusedVariables false
set_option linter.unusedSimpArgs false
mutual
def spec_l3Order.l0:Nat->List (S31)->Int->List Int->Int->Option (List Int)
 | 0,_,_,_,_=>none
 | k + 1,x0,x1,x5,x6=>if x6<(x0.length:Int) then (spec_l3Order.l1 k x0 x1 x5 x6 0) else (some x5)
def spec_l3Order.l1:Nat->List (S31)->Int->List Int->Int->Int->Option (List Int)
 | 0,_,_,_,_,_=>none
 | k + 1,x0,x1,x5,x6,x7=>if x7<(x5.length:Int) then (if 0<=x7 then ((spec_l3Gap.f x0 x1 (rd x5 x7) x6).bind fun t564=>(if t564<=0 then (spec_l3Order.l1 k x0 x1 x5 x6 (wrap64 (x7 + 1))) else (if x7<=(x5.length:Int) then ((spec_l1Own.f (x5.take (x7:Int).toNat)).bind fun t569=>((some (([x6]:List Int):List Int)).bind fun y572=>(if t569.length + y572.length<17592186044416 then ((some (t569++y572:List Int)).bind fun y575=>((some (x5.drop (x7:Int).toNat:List Int)).bind fun y578=>(if y575.length + y578.length<17592186044416 then (spec_l3Order.l0 k x0 x1 (y575++y578) (wrap64 (x6 + 1))) else (none)))) else (none)))) else (none)))) else (none)) else (if 0<=x7 then (if x7<=(x5.length:Int) then ((spec_l1Own.f (x5.take (x7:Int).toNat)).bind fun t589=>((some (([x6]:List Int):List Int)).bind fun y592=>(if t589.length + y592.length<17592186044416 then ((some (t589++y592:List Int)).bind fun y595=>((some (x5.drop (x7:Int).toNat:List Int)).bind fun y598=>(if y595.length + y598.length<17592186044416 then (spec_l3Order.l0 k x0 x1 (y595++y598) (wrap64 (x6 + 1))) else (none)))) else (none)))) else (none)) else (none))
end
def spec_l3Order.f (k:Nat) (l0:List (S31)) (a1:Int):Option (List Int):=spec_l3Order.l0 k l0 a1 (([]:List Int)) 0
def spec_l3Order.T8:Bool × List (List Nat × List Nat):=(true,[([],[]),([],[]),([0,1],[0,1]),([2],[2]),([],[]),([4],[4]),([3,5,3],[3,5]),([],[]),([],[]),([7,8],[7,8]),([6,9,6],[6,9]),([10,10,0,1,2,3,4,5,6,7,8,9,10],[0,7,10])])
def spec_l3Order.B8:List Nat:=[0,0,3,7,0,16,63,0,0,384,1023,2047]
theorem spec_l3Order.tab8:rtab .any (opsOf Try.f46 8)=spec_l3Order.T8:=by kernel_rfl
theorem spec_l3Order.bits8:waitsOk spec_l3Order.T8.2 spec_l3Order.B8=true:=by kernel_rfl
set_option maxHeartbeats 8000000 in
set_option maxRecDepth 100000 in
theorem spec_l3Order.calls (k:Nat) (A0:Option Addr) (c0:Nat) (l0:List (S31)) (a1:Int) (r:List Int) (w:World) (hr0:Kd.C k31 w A0 l0.length l0) (hc0:l0.length<=c0) (h:spec_l3Order.f k l0 a1=some r) :
  Calls Try.prog 46 #[.slice A0 l0.length c0,.int .i64 a1] w fun e w'=>∃ v0_:Value,e=.returned (v0_)/\Kd.R (Kd.int .i64) 3 w' w.heap.size (fun _=>True) v0_ r/\Below w.heap.size w w':=by
 have HR0:=ak_ hr0
 have HC0:=ak_ hc0
 clear hr0 hc0
 have HB:=ak_ (Below.refl w.heap.size w)
 have H:(spec_l3Order.l0 k l0 a1 (([]:List Int)) 0)=some r:=h
 clear h
 generalize hy560:(([]:List Int):List Int)=y560 at H
 have Ny560:=ak_ hy560.symm
 clear hy560
 have H':=ak_ H
 clear H
 go_enter Try.func46,Try.ntmps46
 go_wp2_with (((with_reducible refine gate_dst (N:=8) rfl ?_);refine Kd.R_lit (Kd.int .i64) _ 3 ?hg (N:=8) ?hd (xs:=([]:List Int)) (inner:=[]) (ok:=fun _=>True) (okp:=fun _=>True) ?hr ?hp (fun _ hk=>hk) trivial (Below.refl _ _) (Nat.le_refl _) (by simp) ?_;(case hd=>rfl);(case hg=>rfl);(case hr=>(go_simp;done));(case hp=>exact (Reps.none _ _));intro v561 w3 ho4 hb hg_ hnew_;clear hg_ hnew_;(rw [<-Ny560.out] at ho4);have HO562:=ak_ (Kd.R_lower ho4 (below_size zb));replace HB:=zb1 hb;clear hb ho4))
 go_loopg [5,6] k (fun kq v5 v6 w'=>∃ (x5_1:List Int) (x6_1:Int),v6=.int .i64 x6_1/\Aside0 (spec_l3Order.l0 kq l0 a1 x5_1 x6_1=some r)/\Aside0 (kq<=k)/\Aside0 (Kd.R (Kd.int .i64) 3 w' w.heap.size (fun _=>True) v5 x5_1)/\Aside0 (Below w.heap.size w w'))
 case atStart=>exact ⟨(y560),(0),zo,H',⟨Nat.le_refl _⟩,⟨zR HO562.out⟩,⟨zb⟩⟩
 case round=>
  clear H'
  obtain ⟨x5_1,x6_1,rfl,HA,HK1,HO_5,HB⟩:=hrel
  cases gk with
  | zero=>exact absurd HA.out (by simp [spec_l3Order.l0])
  | succ k1=>
   have H:=HA.out
   clear HA
   simp only [spec_l3Order.l0] at H
   replace H:=gND H;rcases H with ⟨c5b0,H⟩ | ⟨c5b0,H⟩
   ·obtain rfl:=oi_ H
    go_wp2
    go_ret
    exact ⟨_,zz0,zR HO_5.out,zb⟩
   have H':=ak_ H
   clear H
   go_wp2
   go_loopg [7] k1 (fun kq v7 w'=>∃ (x7_2:Int),v7=.int .i64 x7_2/\Aside0 (spec_l3Order.l1 kq l0 a1 x5_1 x6_1 x7_2=some r)/\Aside0 (kq<=k1)/\Aside0 (Kd.R (Kd.int .i64) 3 w' w.heap.size (fun _=>True) u5 x5_1)/\Aside0 (Below w.heap.size w w'))
   case atStart=>exact ⟨(0),zo,H',⟨Nat.le_refl _⟩,⟨zR HO_5.out⟩,⟨zb⟩⟩
   case round=>
    clear H'
    obtain ⟨x7_2,rfl,HA,HK2,HO_5,HB⟩:=hrel
    cases gk with
    | zero=>exact absurd HA.out (by simp [spec_l3Order.l1])
    | succ k2=>
     have H:=HA.out
     clear HA
     simp only [spec_l3Order.l1] at H
     replace H:=gND H;rcases H with ⟨c6b0,H⟩ | ⟨c6b0,H⟩
     ·replace H:=gE H;obtain ⟨c31b0,c31b1,H⟩:=H
      replace H:=gE H;obtain ⟨c32b0,c32b1,H⟩:=H
      generalize hy585:(x5_1.take (x7_2:Int).toNat:List Int)=y585 at H
      have Ny585:=ak_ hy585.symm
      clear hy585
      replace H:=gT H;obtain ⟨t589,A33,H⟩:=H
      replace H:=gY H;obtain ⟨y592,Ny592,H⟩:=H
      replace H:=gL H;obtain ⟨LMc34,H⟩:=H
      replace H:=gY H;obtain ⟨y595,Ny595,H⟩:=H
      have c35b0:=eq_true (oz_:0<=x7_2)
      have c36b0:=eq_true (oz_:x7_2<=(x5_1.length:Int))
      replace H:=gY H;obtain ⟨y598,Ny598,H⟩:=H
      replace H:=gL H;obtain ⟨LMc37,H⟩:=H
      generalize hy602:(y595++y598:List Int)=y602 at H
      have Ny602:=ak_ hy602.symm
      clear hy602
      have H':=ak_ H
      clear H
      obtain ⟨Ao38,co38,eo38⟩:=Kd.R_slice HO_5.out
      subst eo38
      try go_wp2
      replace HO_5:=ak_ (Kd.R_drew HO_5.out)
      replace HB:=ak_ (below_drew1 HB.out)
      have q40:(x7_2:Int)<=((x5_1.length:Int):Int):=oz_
      obtain ⟨i040,hi040,_,hsz40,_⟩:=info_parts info3
      have hroom40:x5_1.length<=co38:=(Kd.R_reads' HO_5.out).2.1
      have hC40:Kd.C (Kd.int .i64) _ Ao38 x5_1.length x5_1:=(Kd.R_reads' HO_5.out).2.2
      have hcut40:=cut_to (P:=Try.prog) 49 3 .i64 Try.underlying49 hi040 Ao38 x5_1.length co38 x7_2 (oz_) q40 hroom40
      have hr40:=Kd.C_take (m:=(x7_2:Int).toNat) hC40 (by omega)
      have hy40:y585.length=(x7_2:Int).toNat:=(by rw [Ny585.out,List.length_take];omega)
      rw [<-Ny585.out] at hr40
      rw [<-hy40] at hcut40
      have HR588:=ak_ hr40
      have HC588:=ak_ (show y585.length<=co38 from by omega)
      clear hr40 hC40 hroom40 hi040 hsz40
      have KY40:=ak_ hy40
      clear hy40
      have KL40:=ak_ (show (x7_2:Int).toNat<=x5_1.length from by omega)
      replace q40:=eq_true q40
      have q41:(x7_2:Int)<=((x5_1.length:Int):Int):=oz_
      obtain ⟨i041,hi041,_,hsz41,_⟩:=info_parts info3
      have hroom41:x5_1.length<=co38:=(Kd.R_reads' HO_5.out).2.1
      have hC41:Kd.C (Kd.int .i64) _ Ao38 x5_1.length x5_1:=(Kd.R_reads' HO_5.out).2.2
      have q041:(0:Int)<=(x7_2:Int):=oz_
      have hcut41:=cut_from (P:=Try.prog) 49 3 .i64 Try.underlying49 hi041 1 hsz41 Ao38 x5_1.length co38 x7_2 q041 q41
      have hr41:=Kd.C_drop (m:=(x7_2:Int).toNat) (c:=co38) hC41 (by omega) hroom41
      obtain ⟨A41,hA41⟩:∃ Az_,Az_=(if co38=(x7_2:Int).toNat then Ao38 else (Ao38:Option Addr).map (·.add ((x7_2:Int).toNat * 1))):=⟨_,rfl⟩
      obtain ⟨c41,hc41⟩:∃ cz_,cz_=co38 - (x7_2:Int).toNat:=⟨_,rfl⟩
      have hy41:y598.length=x5_1.length - (x7_2:Int).toNat:=(by rw [Ny598.out,List.length_drop] <;> omega)
      rw [show (x5_1).drop (x7_2:Int).toNat=y598 from Ny598.out.symm] at hr41
      replace hr41:Kd.C (Kd.int .i64) _ A41 y598.length y598:=(by rw [hA41];exact hr41)
      rw [<-hy41,<-hA41,<-hc41] at hcut41
      have HR601:=ak_ hr41
      have HC601:=ak_ (show y598.length<=c41 from by rw [hy41,hc41];exact Nat.sub_le_sub_right hroom41 _)
      clear hr41 hC41 hroom41 hi041 hsz41 hc41
      have KY41:=ak_ hy41
      have KA41:=ak_ hA41
      clear hy41 hA41
      have KL41:=ak_ (show (x7_2:Int).toNat<=x5_1.length from by omega)
      replace q41:=eq_true q41
      refine start_ (n:=12) (S:=fun w'=>True) (ds:=[]) #[false,false,false,false,false,false,false,false,false,false,false,false] (by kernel_rfl) rfl rfl trivial (fun hHeld=>?_);refine with_tabW spec_l3Order.tab8 spec_l3Order.bits8 (fun HT_ HW_=>?_)
      generalize wr.drew=w39 at HO_5 HB HR588 HR601 hHeld ⊢
      refine pu_ 0 32 ?_
      refine pu_ 1 33 ?_
      refine pu_ 2 34 ?_
      refine pu_ 4 36 ?_
      refine pu_ 7 39 ?_
      refine pu_ 8 40 ?_
      refine pu_ 9 41 ?_
      refine join_ (σ:=Value × Value) 3 #[true,true,true,true,true,true,false,true,true,true,false,false] (fun s_=>[(35,s_.1),(37,s_.2)]) (fun s_ w'=>(Kd.R (Kd.int .i64) 3 w' w.heap.size (fun k_=>some k_≠(s_.2:Value).ownBlock/\some k_≠(.slice Ao38 x5_1.length co38:Value).ownBlock) s_.1 t589)/\(Kd.R (Kd.int .i64) 3 w' w.heap.size (fun k_=>some k_≠(s_.1:Value).ownBlock/\some k_≠(.slice Ao38 x5_1.length co38:Value).ownBlock) s_.2 y592)/\(Kd.R (Kd.int .i64) 3 w' w.heap.size (fun k_=>some k_≠(s_.1:Value).ownBlock/\some k_≠(s_.2:Value).ownBlock) (.slice Ao38 x5_1.length co38) x5_1)/\(Below w.heap.size w w')) ?_ ?_
      rotate_left
      ·intro hCont
       refine two_ (i:=3) (j:=5) (Ni:=some 35) (Nj:=some 37) #[true,true,true,true,true,false,false,true,true,true,false,false] #[true,true,true,false,true,true,false,true,true,true,false,false] rfl rfl rfl rfl (two_of HT_.out (by kernel_rfl)) (by decide) (by decide) (fun K hK=>?_) (fun K hK=>?_)
       ·skip
        refine goes_ Try.func83 (by kernel_rfl) rfl #[.slice Ao38 y585.length co38] (by rfl) rfl rfl zl ?_
        with_reducible refine (spec_l1Own.calls _ _ y585 t589 _ ?side1 ?side2 A33.out).mono ?_
        (case side1=>exact zz95)
        (case side2=>exact HC588.out)
        rintro e w42 ⟨v590,rfl,ho0,hb⟩
        refine ⟨_,rfl,?_⟩
        have n0_:=ak_ (Kd.R_elder' (zR HO_5.out) (Kd.R_base ho0) hb)
        have n1_:=ak_ (Kd.R_lower (Kd.R_new' ho0 (Kd.R_lt (zR HO_5.out))) (below_size zb))
        have n2_:=ak_ (Kd.C_below zz68 hb)
        have n3_:=ak_ (Kd.C_below zz80 hb)
        have n4_:=zb1 hb
        clear HO_5
        clear HR588
        clear HR601
        clear HB
        have HO_5:=n0_
        have HO591:=n1_
        have HR588:=n2_
        have HR601:=n3_
        have HB:=n4_
        clear n0_ n1_ n2_ n3_ n4_
        refine hK.out _ _ trivial (fun hHeld=>?_)
        clear hK K
        refine norm_ (a':=?_) ?_ ?_
        rotate_left
        ·show Act.put _ (some 35) _=_
         simp only [Act.put,List.setIfInBounds_toArray,List.set_cons_zero,List.set_cons_succ,i64_w,i32_w]
         rfl
        refine one_ (i:=5) (N:=some 37) #[true,true,true,true,true,true,false,true,true,true,false,false] rfl rfl (one_of HT_.out (by kernel_rfl)) (by decide) (fun K hK=>?_)
        refine Kd.R_lit_step (Kd.int .i64) _ 3 ?hg (N:=37) ?hd (xs:=([x6_1]:List Int)) (inner:=[.int .i64 x6_1]) (ok:=fun _=>True) (okp:=fun _=>True) ?hr ?hp (fun _ hk=>hk) trivial (Below.refl _ _) (Nat.le_refl _) (by simp) ?_;(case hd=>rfl);(case hg=>rfl);(case hr=>(go_simp;done));(case hp=>exact (Reps.one (show Kd.M (Kd.int .i64) _ _ _ x6_1 [.int .i64 x6_1] from rfl) (Reps.none _ _)))
        intro v593 w43 ho44 hb hg_ hnew_
        clear hg_ hnew_
        (rw [<-Ny592.out] at ho44)
        have n0_:=ak_ (Kd.R_elder' (zR HO_5.out) (Kd.R_base ho44) hb)
        have n1_:=ak_ (Kd.R_elder' (zR HO591.out) (Kd.R_base ho44) hb)
        have n2_:=ak_ (Kd.R_lower (Kd.R_new' (Kd.R_new' ho44 (Kd.R_lt (zR HO_5.out))) (Kd.R_lt (zR HO591.out))) (below_size zb))
        have n3_:=ak_ (Kd.C_below zz68 hb)
        have n4_:=ak_ (Kd.C_below zz80 hb)
        have n5_:=zb1 hb
        clear HO_5
        clear HO591
        clear HR588
        clear HR601
        clear HB
        have HO_5:=n0_
        have HO591:=n1_
        have HO594:=n2_
        have HR588:=n3_
        have HR601:=n4_
        have HB:=n5_
        clear n0_ n1_ n2_ n3_ n4_ n5_
        clear hb ho44
        refine hK.out _ _ trivial (fun hHeld=>?_)
        clear hK K
        refine norm_ (a':=?_) ?_ ?_
        rotate_left
        ·show Act.put _ (some 37) _=_
         simp only [Act.put,List.setIfInBounds_toArray,List.set_cons_zero,List.set_cons_succ,i64_w,i32_w]
         rfl
        exact norm_ zz12 (hCont (v590,v593) _ ⟨(zR (Kd.R_mono HO591.out (fun _ hk=>⟨hk.2,hk.1.2⟩))),(zR (Kd.R_mono HO594.out (fun _ hk=>⟨hk.2,hk.1.2⟩))),(zR (Kd.R_mono HO_5.out (fun _ hk=>⟨hk.1.2,hk.2⟩))),zb⟩)
       ·skip
        refine Kd.R_lit_step (Kd.int .i64) _ 3 ?hg (N:=37) ?hd (xs:=([x6_1]:List Int)) (inner:=[.int .i64 x6_1]) (ok:=fun _=>True) (okp:=fun _=>True) ?hr ?hp (fun _ hk=>hk) trivial (Below.refl _ _) (Nat.le_refl _) (by simp) ?_;(case hd=>rfl);(case hg=>rfl);(case hr=>(go_simp;done));(case hp=>exact (Reps.one (show Kd.M (Kd.int .i64) _ _ _ x6_1 [.int .i64 x6_1] from rfl) (Reps.none _ _)))
        intro v593 w42 ho43 hb hg_ hnew_
        clear hg_ hnew_
        (rw [<-Ny592.out] at ho43)
        have n0_:=ak_ (Kd.R_elder' (zR HO_5.out) (Kd.R_base ho43) hb)
        have n1_:=ak_ (Kd.R_lower (Kd.R_new' ho43 (Kd.R_lt (zR HO_5.out))) (below_size zb))
        have n2_:=ak_ (Kd.C_below zz68 hb)
        have n3_:=ak_ (Kd.C_below zz80 hb)
        have n4_:=zb1 hb
        clear HO_5
        clear HR588
        clear HR601
        clear HB
        have HO_5:=n0_
        have HO594:=n1_
        have HR588:=n2_
        have HR601:=n3_
        have HB:=n4_
        clear n0_ n1_ n2_ n3_ n4_
        clear hb ho43
        refine hK.out _ _ trivial (fun hHeld=>?_)
        clear hK K
        refine norm_ (a':=?_) ?_ ?_
        rotate_left
        ·show Act.put _ (some 37) _=_
         simp only [Act.put,List.setIfInBounds_toArray,List.set_cons_zero,List.set_cons_succ,i64_w,i32_w]
         rfl
        refine one_ (i:=3) (N:=some 35) #[true,true,true,true,true,true,false,true,true,true,false,false] rfl rfl (one_of HT_.out (by kernel_rfl)) (by decide) (fun K hK=>?_)
        refine goes_ Try.func83 (by kernel_rfl) rfl #[.slice Ao38 y585.length co38] (by rfl) rfl rfl zl ?_
        with_reducible refine (spec_l1Own.calls _ _ y585 t589 _ ?side1 ?side2 A33.out).mono ?_
        (case side1=>exact zz95)
        (case side2=>exact HC588.out)
        rintro e w44 ⟨v590,rfl,ho0,hb⟩
        refine ⟨_,rfl,?_⟩
        have n0_:=ak_ (Kd.R_elder' (zR HO_5.out) (Kd.R_base ho0) hb)
        have n1_:=ak_ (Kd.R_elder' (zR HO594.out) (Kd.R_base ho0) hb)
        have n2_:=ak_ (Kd.R_lower (Kd.R_new' (Kd.R_new' ho0 (Kd.R_lt (zR HO_5.out))) (Kd.R_lt (zR HO594.out))) (below_size zb))
        have n3_:=ak_ (Kd.C_below zz68 hb)
        have n4_:=ak_ (Kd.C_below zz80 hb)
        have n5_:=zb1 hb
        clear HO_5
        clear HO594
        clear HR588
        clear HR601
        clear HB
        have HO_5:=n0_
        have HO594:=n1_
        have HO591:=n2_
        have HR588:=n3_
        have HR601:=n4_
        have HB:=n5_
        clear n0_ n1_ n2_ n3_ n4_ n5_
        refine hK.out _ _ trivial (fun hHeld=>?_)
        clear hK K
        refine norm_ (a':=?_) ?_ ?_
        rotate_left
        ·show Act.put _ (some 35) _=_
         simp only [Act.put,List.setIfInBounds_toArray,List.set_cons_zero,List.set_cons_succ,i64_w,i32_w]
         rfl
        exact norm_ zz12 (hCont (v590,v593) _ ⟨(zR (Kd.R_mono HO591.out (fun _ hk=>⟨hk.2,hk.1.2⟩))),(zR (Kd.R_mono HO594.out (fun _ hk=>⟨hk.2,hk.1.2⟩))),(zR (Kd.R_mono HO_5.out (fun _ hk=>⟨hk.2,hk.1.2⟩))),zb⟩)
      rintro ⟨v590,v593⟩ w45 ⟨h0_,h1_,h2_,h3_⟩
      have n0_:Aside0 (Kd.R (Kd.int .i64) 3 w45 w.heap.size (fun k_=>some k_≠(v593:Value).ownBlock/\some k_≠(.slice Ao38 x5_1.length co38:Value).ownBlock) v590 t589):=⟨h0_⟩
      have n1_:Aside0 (Kd.R (Kd.int .i64) 3 w45 w.heap.size (fun k_=>some k_≠(v590:Value).ownBlock/\some k_≠(.slice Ao38 x5_1.length co38:Value).ownBlock) v593 y592):=⟨h1_⟩
      have n2_:Aside0 (Kd.R (Kd.int .i64) 3 w45 w.heap.size (fun k_=>some k_≠(v590:Value).ownBlock/\some k_≠(v593:Value).ownBlock) (.slice Ao38 x5_1.length co38) x5_1):=⟨h2_⟩
      have n3_:Aside0 (Below w.heap.size w w45):=⟨h3_⟩
      clear HO_5
      clear HB
      clear h0_ h1_ h2_ h3_
      have HO591:=n0_
      have HO594:=n1_
      have HO_5:=n2_
      have HB:=n3_
      clear n0_ n1_ n2_ n3_
      have hHeld:=trivial
      obtain ⟨Ao47,co47,eo47⟩:=Kd.R_slice HO594.out
      (subst eo47)
      refine norm_ (a':=?_) ?_ ?_
      rotate_left
      ·simp only [putAll,Act.put,List.setIfInBounds_toArray,List.set_cons_zero,List.set_cons_succ]
       rfl
      refine one_ (i:=6) (N:=some 38) #[true,true,true,true,true,true,true,true,true,true,false,false] rfl rfl (one_of HT_.out (by kernel_rfl)) (by decide) (fun K hK=>?_)
      refine Kd.R_append_rows_step (Kd.int .i64) (w0:=w) w.heap.size (by rfl) (.tmp 35) (.tmp 37) 49 3 (.int .i64 0) 8 rfl Try.underlying49 info3 rfl (by decide) (by omega) v590 t589 y592 _ _ _ (fun k_=>some k_≠(.slice Ao38 x5_1.length co38:Value).ownBlock/\some k_≠(.slice Ao47 y592.length co47:Value).ownBlock) (fun _=>False) rfl rfl ?aO ?aR (fun _ _ h=>h) (fun _ h=>h.elim) ?aF ?aB ?aS ?aL ?_
      (case aR=>exact zC ((Kd.R_reads' HO594.out).2.2))
      (case aB=>exact zb)
      (case aF=>exact (fun k_ hk=>⟨Kd.fresh' (Kd.R_lt (zR HO_5.out)) k_ hk,Kd.fresh' (Kd.R_lt (zR HO594.out)) k_ hk⟩))
      (case aO=>exact (zR (Kd.R_mono HO591.out (fun _ hk=>⟨hk.2,hk.1⟩))))
      (case aS=>exact (below_size zb))
      (case aL=>have:=LMc34.out;omega)
      intro v596 w46 ho hb hg hat
      rw [<-Ny595.out] at ho
      replace HO_5:=ak_ (Kd.R_after (ok:=(fun k_=>some k_≠(.slice Ao47 y592.length co47:Value).ownBlock)) (zR (Kd.R_mono HO_5.out (fun _ hk=>⟨hk.2,hk.1⟩))) hg hat)
      replace HO594:=ak_ (Kd.R_after (ok:=(fun k_=>some k_≠(.slice Ao38 x5_1.length co38:Value).ownBlock)) (zR (Kd.R_mono HO594.out (fun _ hk=>⟨hk.2,hk.1⟩))) hg hat)
      replace HB:=ak_ (hb)
      have HO597:=ak_ (ho)
      clear HO591
      clear ho hb hg hat
      refine hK.out _ _ trivial (fun hHeld=>?_)
      clear hK K
      refine norm_ (a':=?_) ?_ ?_
      rotate_left
      ·show Act.put _ (some 38) _=_
       simp only [Act.put,List.setIfInBounds_toArray,List.set_cons_zero,List.set_cons_succ,i64_w,i32_w]
       rfl
      refine one_ (i:=10) (N:=some 42) #[true,true,true,true,true,true,true,true,true,true,true,false] rfl rfl (one_of HT_.out (by kernel_rfl)) (by decide) (fun K hK=>?_)
      refine Kd.R_append_rows_step (Kd.int .i64) (w0:=w) w.heap.size (by rfl) (.tmp 38) (.tmp 41) 49 3 (.int .i64 0) 8 rfl Try.underlying49 info3 rfl (by decide) (by omega) v596 y595 y598 _ _ _ (fun k_=>some k_≠(.slice Ao38 x5_1.length co38:Value).ownBlock/\some k_≠(.slice Ao47 y592.length co47:Value).ownBlock) (fun _=>False) rfl rfl ?aO ?aR (fun _ _ h=>h) (fun _ h=>h.elim) ?aF ?aB ?aS ?aL ?_
      (case aR=>exact (by rw [Ny598.out,KA41.out];exact Kd.C_drop (m:=(x7_2:Int).toNat) (c:=co38) ((Kd.R_reads' (HO_5.out)).2.2) KL41.out ((Kd.R_reads' (HO_5.out)).2.1)))
      (case aB=>exact zb)
      (case aF=>exact (fun k_ hk=>⟨Kd.fresh' (Kd.R_lt (zR HO_5.out)) k_ hk,Kd.fresh' (Kd.R_lt (zR HO594.out)) k_ hk⟩))
      (case aO=>exact (zR HO597.out))
      (case aS=>exact (below_size zb))
      (case aL=>have:=LMc37.out;omega)
      intro v603 w48 ho hb hg hat
      rw [<-Ny602.out] at ho
      replace HO_5:=ak_ (Kd.R_after (ok:=(fun k_=>some k_≠(.slice Ao47 y592.length co47:Value).ownBlock)) (zR HO_5.out) hg hat)
      replace HO594:=ak_ (Kd.R_after (ok:=(fun k_=>some k_≠(.slice Ao38 x5_1.length co38:Value).ownBlock)) (zR HO594.out) hg hat)
      replace HB:=ak_ (hb)
      have HO604:=ak_ (ho)
      clear HO597
      clear ho hb hg hat
      refine hK.out _ _ trivial (fun hHeld=>?_)
      clear hK K
      refine norm_ (a':=?_) ?_ ?_
      rotate_left
      ·show Act.put _ (some 42) _=_
       simp only [Act.put,List.setIfInBounds_toArray,List.set_cons_zero,List.set_cons_succ,i64_w,i32_w]
       rfl
      refine pu_ 11 5 ?_
      refine done_ (done_of HT_.out (by kernel_rfl)) ?_
      try go_wp2
      go_roundg k2
      case measure=>have:=HK1.out;have:=HK2.out;omega
      case rel=>exact ⟨(y602),(wrap64 (x6_1 + 1)),zo,H',⟨zz32⟩,⟨zR (Kd.R_mono HO604.out (fun _ hk=>trivial))⟩,⟨zb⟩⟩
     replace H:=gD H;obtain ⟨c7b0,H⟩:=H
     replace H:=gT H;obtain ⟨t564,A8,H⟩:=H
     replace H:=gPD H;rcases H with ⟨c9b0,H⟩ | ⟨c9b0,H⟩
     ·have H':=ak_ H
      clear H
      obtain ⟨Ao10,co10,eo10⟩:=Kd.R_slice HO_5.out
      subst eo10
      have p563:0<=(x7_2:Int):=oz_
      have q563:x7_2<(x5_1.length:Int):=oz_
      obtain ⟨ad563,e563,hx563_0⟩:=Kd.at_int (Kd.R_reads' HO_5.out).2.2 x7_2 p563 q563
      cases e563
      replace p563:=eq_true p563
      replace q563:=eq_true q563
      go_wp2_with ((go_at_call 88;(with_reducible refine (spec_l3Gap.calls _ _ l0 a1 (rd x5_1 x7_2) x6_1 t564 _ ?side1 ?side2 A8.out).mono ?_);(case side1=>exact zC (Kd.C_below HR0.out HB.out));(case side2=>exact HC0.out);rintro e w11 ⟨rfl,hb⟩;replace HO_5:=zRb HO_5 hb;replace HB:=zb1 hb;(try clear hb)))
      go_roundg k2
      case measure=>have:=HK1.out;have:=HK2.out;omega
      case rel=>exact ⟨(wrap64 (x7_2 + 1)),zo,H',⟨zz32⟩,⟨zR HO_5.out⟩,⟨zb⟩⟩
     have c12b0:=eq_true (oz_:0<=x7_2)
     replace H:=gE H;obtain ⟨c13b0,c13b1,H⟩:=H
     generalize hy565:(x5_1.take (x7_2:Int).toNat:List Int)=y565 at H
     have Ny565:=ak_ hy565.symm
     clear hy565
     replace H:=gT H;obtain ⟨t569,A14,H⟩:=H
     replace H:=gY H;obtain ⟨y572,Ny572,H⟩:=H
     replace H:=gL H;obtain ⟨LMc15,H⟩:=H
     replace H:=gY H;obtain ⟨y575,Ny575,H⟩:=H
     have c16b0:=eq_true (oz_:0<=x7_2)
     have c17b0:=eq_true (oz_:x7_2<=(x5_1.length:Int))
     replace H:=gY H;obtain ⟨y578,Ny578,H⟩:=H
     replace H:=gL H;obtain ⟨LMc18,H⟩:=H
     generalize hy582:(y575++y578:List Int)=y582 at H
     have Ny582:=ak_ hy582.symm
     clear hy582
     have H':=ak_ H
     clear H
     obtain ⟨Ao19,co19,eo19⟩:=Kd.R_slice HO_5.out
     subst eo19
     have p563:0<=(x7_2:Int):=oz_
     have q563:x7_2<(x5_1.length:Int):=oz_
     obtain ⟨ad563,e563,hx563_0⟩:=Kd.at_int (Kd.R_reads' HO_5.out).2.2 x7_2 p563 q563
     cases e563
     replace p563:=eq_true p563
     replace q563:=eq_true q563
     try go_wp2_with ((go_at_call 88;(with_reducible refine (spec_l3Gap.calls _ _ l0 a1 (rd x5_1 x7_2) x6_1 t564 _ ?side1 ?side2 A8.out).mono ?_);(case side1=>exact zC (Kd.C_below HR0.out HB.out));(case side2=>exact HC0.out);rintro e w20 ⟨rfl,hb⟩;replace HO_5:=zRb HO_5 hb;replace HB:=zb1 hb;(try clear hb)))
     replace HO_5:=ak_ (Kd.R_drew HO_5.out)
     replace HB:=ak_ (below_drew1 HB.out)
     have q22:(x7_2:Int)<=((x5_1.length:Int):Int):=oz_
     obtain ⟨i022,hi022,_,hsz22,_⟩:=info_parts info3
     have hroom22:x5_1.length<=co19:=(Kd.R_reads' HO_5.out).2.1
     have hC22:Kd.C (Kd.int .i64) _ (some ad563) x5_1.length x5_1:=(Kd.R_reads' HO_5.out).2.2
     have hcut22:=cut_to (P:=Try.prog) 49 3 .i64 Try.underlying49 hi022 (some ad563) x5_1.length co19 x7_2 (oz_) q22 hroom22
     have hr22:=Kd.C_take (m:=(x7_2:Int).toNat) hC22 (by omega)
     have hy22:y565.length=(x7_2:Int).toNat:=(by rw [Ny565.out,List.length_take];omega)
     rw [<-Ny565.out] at hr22
     rw [<-hy22] at hcut22
     have HR568:=ak_ hr22
     have HC568:=ak_ (show y565.length<=co19 from by omega)
     clear hr22 hC22 hroom22 hi022 hsz22
     have KY22:=ak_ hy22
     clear hy22
     have KL22:=ak_ (show (x7_2:Int).toNat<=x5_1.length from by omega)
     replace q22:=eq_true q22
     have q23:(x7_2:Int)<=((x5_1.length:Int):Int):=oz_
     obtain ⟨i023,hi023,_,hsz23,_⟩:=info_parts info3
     have hroom23:x5_1.length<=co19:=(Kd.R_reads' HO_5.out).2.1
     have hC23:Kd.C (Kd.int .i64) _ (some ad563) x5_1.length x5_1:=(Kd.R_reads' HO_5.out).2.2
     have q023:(0:Int)<=(x7_2:Int):=oz_
     have hcut23:=cut_from (P:=Try.prog) 49 3 .i64 Try.underlying49 hi023 1 hsz23 (some ad563) x5_1.length co19 x7_2 q023 q23
     have hr23:=Kd.C_drop (m:=(x7_2:Int).toNat) (c:=co19) hC23 (by omega) hroom23
     obtain ⟨A23,hA23⟩:∃ Az_,Az_=(if co19=(x7_2:Int).toNat then (some ad563) else ((some ad563):Option Addr).map (·.add ((x7_2:Int).toNat * 1))):=⟨_,rfl⟩
     obtain ⟨c23,hc23⟩:∃ cz_,cz_=co19 - (x7_2:Int).toNat:=⟨_,rfl⟩
     have hy23:y578.length=x5_1.length - (x7_2:Int).toNat:=(by rw [Ny578.out,List.length_drop] <;> omega)
     rw [show (x5_1).drop (x7_2:Int).toNat=y578 from Ny578.out.symm] at hr23
     replace hr23:Kd.C (Kd.int .i64) _ A23 y578.length y578:=(by rw [hA23];exact hr23)
     rw [<-hy23,<-hA23,<-hc23] at hcut23
     have HR581:=ak_ hr23
     have HC581:=ak_ (show y578.length<=c23 from by rw [hy23,hc23];exact Nat.sub_le_sub_right hroom23 _)
     clear hr23 hC23 hroom23 hi023 hsz23 hc23
     have KY23:=ak_ hy23
     have KA23:=ak_ hA23
     clear hy23 hA23
     have KL23:=ak_ (show (x7_2:Int).toNat<=x5_1.length from by omega)
     replace q23:=eq_true q23
     refine start_ (n:=12) (S:=fun w'=>True) (ds:=[]) #[false,false,false,false,false,false,false,false,false,false,false,false] (by kernel_rfl) rfl rfl trivial (fun hHeld=>?_);refine with_tabW spec_l3Order.tab8 spec_l3Order.bits8 (fun HT_ HW_=>?_)
     generalize w20.drew=w21 at HO_5 HB HR568 HR581 hHeld ⊢
     refine pu_ 0 32 ?_
     refine pu_ 1 33 ?_
     refine pu_ 2 34 ?_
     refine pu_ 4 36 ?_
     refine pu_ 7 39 ?_
     refine pu_ 8 40 ?_
     refine pu_ 9 41 ?_
     refine join_ (σ:=Value × Value) 3 #[true,true,true,true,true,true,false,true,true,true,false,false] (fun s_=>[(35,s_.1),(37,s_.2)]) (fun s_ w'=>(Kd.R (Kd.int .i64) 3 w' w.heap.size (fun k_=>some k_≠(s_.2:Value).ownBlock/\some k_≠(.slice (some ad563) x5_1.length co19:Value).ownBlock) s_.1 t569)/\(Kd.R (Kd.int .i64) 3 w' w.heap.size (fun k_=>some k_≠(s_.1:Value).ownBlock/\some k_≠(.slice (some ad563) x5_1.length co19:Value).ownBlock) s_.2 y572)/\(Kd.R (Kd.int .i64) 3 w' w.heap.size (fun k_=>some k_≠(s_.1:Value).ownBlock/\some k_≠(s_.2:Value).ownBlock) (.slice (some ad563) x5_1.length co19) x5_1)/\(Below w.heap.size w w')) ?_ ?_
     rotate_left
     ·intro hCont
      refine two_ (i:=3) (j:=5) (Ni:=some 35) (Nj:=some 37) #[true,true,true,true,true,false,false,true,true,true,false,false] #[true,true,true,false,true,true,false,true,true,true,false,false] rfl rfl rfl rfl (two_of HT_.out (by kernel_rfl)) (by decide) (by decide) (fun K hK=>?_) (fun K hK=>?_)
      ·skip
       refine goes_ Try.func83 (by kernel_rfl) rfl #[.slice (some ad563) y565.length co19] (by rfl) rfl rfl zl ?_
       with_reducible refine (spec_l1Own.calls _ _ y565 t569 _ ?side1 ?side2 A14.out).mono ?_
       (case side1=>exact zz96)
       (case side2=>exact HC568.out)
       rintro e w24 ⟨v570,rfl,ho0,hb⟩
       refine ⟨_,rfl,?_⟩
       have n0_:=ak_ (Kd.R_elder' (zR HO_5.out) (Kd.R_base ho0) hb)
       have n1_:=ak_ (Kd.R_lower (Kd.R_new' ho0 (Kd.R_lt (zR HO_5.out))) (below_size zb))
       have n2_:=ak_ (Kd.C_below zz69 hb)
       have n3_:=ak_ (Kd.C_below zz81 hb)
       have n4_:=zb1 hb
       clear HO_5
       clear HR568
       clear HR581
       clear HB
       have HO_5:=n0_
       have HO571:=n1_
       have HR568:=n2_
       have HR581:=n3_
       have HB:=n4_
       clear n0_ n1_ n2_ n3_ n4_
       refine hK.out _ _ trivial (fun hHeld=>?_)
       clear hK K
       refine norm_ (a':=?_) ?_ ?_
       rotate_left
       ·show Act.put _ (some 35) _=_
        simp only [Act.put,List.setIfInBounds_toArray,List.set_cons_zero,List.set_cons_succ,i64_w,i32_w]
        rfl
       refine one_ (i:=5) (N:=some 37) #[true,true,true,true,true,true,false,true,true,true,false,false] rfl rfl (one_of HT_.out (by kernel_rfl)) (by decide) (fun K hK=>?_)
       refine Kd.R_lit_step (Kd.int .i64) _ 3 ?hg (N:=37) ?hd (xs:=([x6_1]:List Int)) (inner:=[.int .i64 x6_1]) (ok:=fun _=>True) (okp:=fun _=>True) ?hr ?hp (fun _ hk=>hk) trivial (Below.refl _ _) (Nat.le_refl _) (by simp) ?_;(case hd=>rfl);(case hg=>rfl);(case hr=>(go_simp;done));(case hp=>exact (Reps.one (show Kd.M (Kd.int .i64) _ _ _ x6_1 [.int .i64 x6_1] from rfl) (Reps.none _ _)))
       intro v573 w25 ho26 hb hg_ hnew_
       clear hg_ hnew_
       (rw [<-Ny572.out] at ho26)
       have n0_:=ak_ (Kd.R_elder' (zR HO_5.out) (Kd.R_base ho26) hb)
       have n1_:=ak_ (Kd.R_elder' (zR HO571.out) (Kd.R_base ho26) hb)
       have n2_:=ak_ (Kd.R_lower (Kd.R_new' (Kd.R_new' ho26 (Kd.R_lt (zR HO_5.out))) (Kd.R_lt (zR HO571.out))) (below_size zb))
       have n3_:=ak_ (Kd.C_below zz69 hb)
       have n4_:=ak_ (Kd.C_below zz81 hb)
       have n5_:=zb1 hb
       clear HO_5
       clear HO571
       clear HR568
       clear HR581
       clear HB
       have HO_5:=n0_
       have HO571:=n1_
       have HO574:=n2_
       have HR568:=n3_
       have HR581:=n4_
       have HB:=n5_
       clear n0_ n1_ n2_ n3_ n4_ n5_
       clear hb ho26
       refine hK.out _ _ trivial (fun hHeld=>?_)
       clear hK K
       refine norm_ (a':=?_) ?_ ?_
       rotate_left
       ·show Act.put _ (some 37) _=_
        simp only [Act.put,List.setIfInBounds_toArray,List.set_cons_zero,List.set_cons_succ,i64_w,i32_w]
        rfl
       exact norm_ zz12 (hCont (v570,v573) _ ⟨(zR (Kd.R_mono HO571.out (fun _ hk=>⟨hk.2,hk.1.2⟩))),(zR (Kd.R_mono HO574.out (fun _ hk=>⟨hk.2,hk.1.2⟩))),(zR (Kd.R_mono HO_5.out (fun _ hk=>⟨hk.1.2,hk.2⟩))),zb⟩)
      ·skip
       refine Kd.R_lit_step (Kd.int .i64) _ 3 ?hg (N:=37) ?hd (xs:=([x6_1]:List Int)) (inner:=[.int .i64 x6_1]) (ok:=fun _=>True) (okp:=fun _=>True) ?hr ?hp (fun _ hk=>hk) trivial (Below.refl _ _) (Nat.le_refl _) (by simp) ?_;(case hd=>rfl);(case hg=>rfl);(case hr=>(go_simp;done));(case hp=>exact (Reps.one (show Kd.M (Kd.int .i64) _ _ _ x6_1 [.int .i64 x6_1] from rfl) (Reps.none _ _)))
       intro v573 w24 ho25 hb hg_ hnew_
       clear hg_ hnew_
       (rw [<-Ny572.out] at ho25)
       have n0_:=ak_ (Kd.R_elder' (zR HO_5.out) (Kd.R_base ho25) hb)
       have n1_:=ak_ (Kd.R_lower (Kd.R_new' ho25 (Kd.R_lt (zR HO_5.out))) (below_size zb))
       have n2_:=ak_ (Kd.C_below zz69 hb)
       have n3_:=ak_ (Kd.C_below zz81 hb)
       have n4_:=zb1 hb
       clear HO_5
       clear HR568
       clear HR581
       clear HB
       have HO_5:=n0_
       have HO574:=n1_
       have HR568:=n2_
       have HR581:=n3_
       have HB:=n4_
       clear n0_ n1_ n2_ n3_ n4_
       clear hb ho25
       refine hK.out _ _ trivial (fun hHeld=>?_)
       clear hK K
       refine norm_ (a':=?_) ?_ ?_
       rotate_left
       ·show Act.put _ (some 37) _=_
        simp only [Act.put,List.setIfInBounds_toArray,List.set_cons_zero,List.set_cons_succ,i64_w,i32_w]
        rfl
       refine one_ (i:=3) (N:=some 35) #[true,true,true,true,true,true,false,true,true,true,false,false] rfl rfl (one_of HT_.out (by kernel_rfl)) (by decide) (fun K hK=>?_)
       refine goes_ Try.func83 (by kernel_rfl) rfl #[.slice (some ad563) y565.length co19] (by rfl) rfl rfl zl ?_
       with_reducible refine (spec_l1Own.calls _ _ y565 t569 _ ?side1 ?side2 A14.out).mono ?_
       (case side1=>exact zz96)
       (case side2=>exact HC568.out)
       rintro e w26 ⟨v570,rfl,ho0,hb⟩
       refine ⟨_,rfl,?_⟩
       have n0_:=ak_ (Kd.R_elder' (zR HO_5.out) (Kd.R_base ho0) hb)
       have n1_:=ak_ (Kd.R_elder' (zR HO574.out) (Kd.R_base ho0) hb)
       have n2_:=ak_ (Kd.R_lower (Kd.R_new' (Kd.R_new' ho0 (Kd.R_lt (zR HO_5.out))) (Kd.R_lt (zR HO574.out))) (below_size zb))
       have n3_:=ak_ (Kd.C_below zz69 hb)
       have n4_:=ak_ (Kd.C_below zz81 hb)
       have n5_:=zb1 hb
       clear HO_5
       clear HO574
       clear HR568
       clear HR581
       clear HB
       have HO_5:=n0_
       have HO574:=n1_
       have HO571:=n2_
       have HR568:=n3_
       have HR581:=n4_
       have HB:=n5_
       clear n0_ n1_ n2_ n3_ n4_ n5_
       refine hK.out _ _ trivial (fun hHeld=>?_)
       clear hK K
       refine norm_ (a':=?_) ?_ ?_
       rotate_left
       ·show Act.put _ (some 35) _=_
        simp only [Act.put,List.setIfInBounds_toArray,List.set_cons_zero,List.set_cons_succ,i64_w,i32_w]
        rfl
       exact norm_ zz12 (hCont (v570,v573) _ ⟨(zR (Kd.R_mono HO571.out (fun _ hk=>⟨hk.2,hk.1.2⟩))),(zR (Kd.R_mono HO574.out (fun _ hk=>⟨hk.2,hk.1.2⟩))),(zR (Kd.R_mono HO_5.out (fun _ hk=>⟨hk.2,hk.1.2⟩))),zb⟩)
     rintro ⟨v570,v573⟩ w27 ⟨h0_,h1_,h2_,h3_⟩
     have n0_:Aside0 (Kd.R (Kd.int .i64) 3 w27 w.heap.size (fun k_=>some k_≠(v573:Value).ownBlock/\some k_≠(.slice (some ad563) x5_1.length co19:Value).ownBlock) v570 t569):=⟨h0_⟩
     have n1_:Aside0 (Kd.R (Kd.int .i64) 3 w27 w.heap.size (fun k_=>some k_≠(v570:Value).ownBlock/\some k_≠(.slice (some ad563) x5_1.length co19:Value).ownBlock) v573 y572):=⟨h1_⟩
     have n2_:Aside0 (Kd.R (Kd.int .i64) 3 w27 w.heap.size (fun k_=>some k_≠(v570:Value).ownBlock/\some k_≠(v573:Value).ownBlock) (.slice (some ad563) x5_1.length co19) x5_1):=⟨h2_⟩
     have n3_:Aside0 (Below w.heap.size w w27):=⟨h3_⟩
     clear HO_5
     clear HB
     clear h0_ h1_ h2_ h3_
     have HO571:=n0_
     have HO574:=n1_
     have HO_5:=n2_
     have HB:=n3_
     clear n0_ n1_ n2_ n3_
     have hHeld:=trivial
     obtain ⟨Ao29,co29,eo29⟩:=Kd.R_slice HO574.out
     (subst eo29)
     refine norm_ (a':=?_) ?_ ?_
     rotate_left
     ·simp only [putAll,Act.put,List.setIfInBounds_toArray,List.set_cons_zero,List.set_cons_succ]
      rfl
     refine one_ (i:=6) (N:=some 38) #[true,true,true,true,true,true,true,true,true,true,false,false] rfl rfl (one_of HT_.out (by kernel_rfl)) (by decide) (fun K hK=>?_)
     refine Kd.R_append_rows_step (Kd.int .i64) (w0:=w) w.heap.size (by rfl) (.tmp 35) (.tmp 37) 49 3 (.int .i64 0) 8 rfl Try.underlying49 info3 rfl (by decide) (by omega) v570 t569 y572 _ _ _ (fun k_=>some k_≠(.slice (some ad563) x5_1.length co19:Value).ownBlock/\some k_≠(.slice Ao29 y572.length co29:Value).ownBlock) (fun _=>False) rfl rfl ?aO ?aR (fun _ _ h=>h) (fun _ h=>h.elim) ?aF ?aB ?aS ?aL ?_
     (case aR=>exact zC ((Kd.R_reads' HO574.out).2.2))
     (case aB=>exact zb)
     (case aF=>exact (fun k_ hk=>⟨Kd.fresh' (Kd.R_lt (zR HO_5.out)) k_ hk,Kd.fresh' (Kd.R_lt (zR HO574.out)) k_ hk⟩))
     (case aO=>exact (zR (Kd.R_mono HO571.out (fun _ hk=>⟨hk.2,hk.1⟩))))
     (case aS=>exact (below_size zb))
     (case aL=>have:=LMc15.out;omega)
     intro v576 w28 ho hb hg hat
     rw [<-Ny575.out] at ho
     replace HO_5:=ak_ (Kd.R_after (ok:=(fun k_=>some k_≠(.slice Ao29 y572.length co29:Value).ownBlock)) (zR (Kd.R_mono HO_5.out (fun _ hk=>⟨hk.2,hk.1⟩))) hg hat)
     replace HO574:=ak_ (Kd.R_after (ok:=(fun k_=>some k_≠(.slice (some ad563) x5_1.length co19:Value).ownBlock)) (zR (Kd.R_mono HO574.out (fun _ hk=>⟨hk.2,hk.1⟩))) hg hat)
     replace HB:=ak_ (hb)
     have HO577:=ak_ (ho)
     clear HO571
     clear ho hb hg hat
     refine hK.out _ _ trivial (fun hHeld=>?_)
     clear hK K
     refine norm_ (a':=?_) ?_ ?_
     rotate_left
     ·show Act.put _ (some 38) _=_
      simp only [Act.put,List.setIfInBounds_toArray,List.set_cons_zero,List.set_cons_succ,i64_w,i32_w]
      rfl
     refine one_ (i:=10) (N:=some 42) #[true,true,true,true,true,true,true,true,true,true,true,false] rfl rfl (one_of HT_.out (by kernel_rfl)) (by decide) (fun K hK=>?_)
     refine Kd.R_append_rows_step (Kd.int .i64) (w0:=w) w.heap.size (by rfl) (.tmp 38) (.tmp 41) 49 3 (.int .i64 0) 8 rfl Try.underlying49 info3 rfl (by decide) (by omega) v576 y575 y578 _ _ _ (fun k_=>some k_≠(.slice (some ad563) x5_1.length co19:Value).ownBlock/\some k_≠(.slice Ao29 y572.length co29:Value).ownBlock) (fun _=>False) rfl rfl ?aO ?aR (fun _ _ h=>h) (fun _ h=>h.elim) ?aF ?aB ?aS ?aL ?_
     (case aR=>exact (by rw [Ny578.out,KA23.out];exact Kd.C_drop (m:=(x7_2:Int).toNat) (c:=co19) ((Kd.R_reads' (HO_5.out)).2.2) KL23.out ((Kd.R_reads' (HO_5.out)).2.1)))
     (case aB=>exact zb)
     (case aF=>exact (fun k_ hk=>⟨Kd.fresh' (Kd.R_lt (zR HO_5.out)) k_ hk,Kd.fresh' (Kd.R_lt (zR HO574.out)) k_ hk⟩))
     (case aO=>exact (zR HO577.out))
     (case aS=>exact (below_size zb))
     (case aL=>have:=LMc18.out;omega)
     intro v583 w30 ho hb hg hat
     rw [<-Ny582.out] at ho
     replace HO_5:=ak_ (Kd.R_after (ok:=(fun k_=>some k_≠(.slice Ao29 y572.length co29:Value).ownBlock)) (zR HO_5.out) hg hat)
     replace HO574:=ak_ (Kd.R_after (ok:=(fun k_=>some k_≠(.slice (some ad563) x5_1.length co19:Value).ownBlock)) (zR HO574.out) hg hat)
     replace HB:=ak_ (hb)
     have HO584:=ak_ (ho)
     clear HO577
     clear ho hb hg hat
     refine hK.out _ _ trivial (fun hHeld=>?_)
     clear hK K
     refine norm_ (a':=?_) ?_ ?_
     rotate_left
     ·show Act.put _ (some 42) _=_
      simp only [Act.put,List.setIfInBounds_toArray,List.set_cons_zero,List.set_cons_succ,i64_w,i32_w]
      rfl
     refine pu_ 11 5 ?_
     refine done_ (done_of HT_.out (by kernel_rfl)) ?_
     try go_wp2
     go_roundg k2
     case measure=>have:=HK1.out;have:=HK2.out;omega
     case rel=>exact ⟨(y582),(wrap64 (x6_1 + 1)),zo,H',⟨zz32⟩,⟨zR (Kd.R_mono HO584.out (fun _ hk=>trivial))⟩,⟨zb⟩⟩
