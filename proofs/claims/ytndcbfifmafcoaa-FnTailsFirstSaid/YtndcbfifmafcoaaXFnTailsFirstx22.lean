import Derived.Test.YtndcbfifmafcoaaXFnTailsFirstx21
namespace Go.Proofs.Ytndcbfifmafcoaa.XFnTailsFirst
open Go.RowKit Go.Proofs.YtndcbfifmafcoaaW.PrintWords Go.Proofs.YtndcbfifmafcoaaW.PrintLast Go.Proofs.YtndcbfifmafcoaaW.PrintMore
set_option linter.unusedVariables false
set_option linter.unusedSimpArgs false
mutual
def spec_l7Falling.l0:Nat->List Int->List Int->Int->Option (List Int)
 | 0,_,_,_=>none
 | k + 1,x0,x3,x4=>if x4<(x0.length:Int) then (spec_l7Falling.l1 k x0 x3 x4 0) else (some x3)
def spec_l7Falling.l1:Nat->List Int->List Int->Int->Int->Option (List Int)
 | 0,_,_,_,_=>none
 | k + 1,x0,x3,x4,x5=>if x5<(x3.length:Int) then (if 0<=x5 then (if 0<=(rd x3 x5) then (if (rd x3 x5)<(x0.length:Int) then (if 0<=x4 then (if x4<(x0.length:Int) then (if (rd x0 (rd x3 x5))>=(rd x0 x4) then (spec_l7Falling.l1 k x0 x3 x4 (wrap64 (x5 + 1))) else (if x5<=(x3.length:Int) then ((spec_l1Own.f (x3.take (x5:Int).toNat)).bind fun t534=>((some (([x4]:List Int):List Int)).bind fun y537=>(if t534.length + y537.length<17592186044416 then ((some (t534++y537:List Int)).bind fun y540=>((some (x3.drop (x5:Int).toNat:List Int)).bind fun y543=>(if y540.length + y543.length<17592186044416 then (spec_l7Falling.l0 k x0 (y540++y543) (wrap64 (x4 + 1))) else (none)))) else (none)))) else (none))) else (none)) else (none)) else (none)) else (none)) else (none)) else (if 0<=x5 then (if x5<=(x3.length:Int) then ((spec_l1Own.f (x3.take (x5:Int).toNat)).bind fun t554=>((some (([x4]:List Int):List Int)).bind fun y557=>(if t554.length + y557.length<17592186044416 then ((some (t554++y557:List Int)).bind fun y560=>((some (x3.drop (x5:Int).toNat:List Int)).bind fun y563=>(if y560.length + y563.length<17592186044416 then (spec_l7Falling.l0 k x0 (y560++y563) (wrap64 (x4 + 1))) else (none)))) else (none)))) else (none)) else (none))
end
def spec_l7Falling.f (k:Nat) (l0:List Int):Option (List Int):=spec_l7Falling.l0 k l0 (([]:List Int)) 0
def spec_l7Falling.T6:Bool × List (List Nat × List Nat):=(true,[([],[]),([],[]),([1],[1]),([0,2],[0,2]),([3],[3]),([4],[4]),([4],[4]),([4],[4]),([6,7,4],[4,6,7]),([8,4],[4,8]),([5,9,4],[4,5,9]),([10,4],[4,10]),([4],[4]),([4],[4]),([12,13,4],[4,12,13]),([14,4],[4,14]),([11,15,4],[4,11,15]),([4,16],[4,16])])
def spec_l7Falling.B6:List Nat:=[0,0,2,7,15,31,31,31,223,479,1023,2047,31,31,12319,28703,65535,131071]
theorem spec_l7Falling.tab6:rtab .any (opsOf Try.f34 6)=spec_l7Falling.T6:=by kernel_rfl
theorem spec_l7Falling.bits6:waitsOk spec_l7Falling.T6.2 spec_l7Falling.B6=true:=by kernel_rfl
def spec_l7Falling.T8:Bool × List (List Nat × List Nat):=(true,[([],[]),([],[]),([0,1],[0,1]),([2],[2]),([],[]),([4],[4]),([3,5,3],[3,5]),([],[]),([],[]),([7,8],[7,8]),([6,9,6],[6,9]),([10,10,0,1,2,3,4,5,6,7,8,9,10],[0,7,10])])
def spec_l7Falling.B8:List Nat:=[0,0,3,7,0,16,63,0,0,384,1023,2047]
theorem spec_l7Falling.tab8:rtab .any (opsOf Try.f34 8)=spec_l7Falling.T8:=by kernel_rfl
theorem spec_l7Falling.bits8:waitsOk spec_l7Falling.T8.2 spec_l7Falling.B8=true:=by kernel_rfl
set_option maxHeartbeats 8000000 in
set_option maxRecDepth 100000 in
theorem spec_l7Falling.calls (k:Nat) (A0:Option Addr) (c0:Nat) (l0:List Int) (r:List Int) (w:World) (hr0:Kd.C (Kd.int .i64) w A0 l0.length l0) (hc0:l0.length<=c0) (h:spec_l7Falling.f k l0=some r) :
  Calls Try.prog 34 #[.slice A0 l0.length c0] w fun e w'=>∃ v0_:Value,e=.returned (v0_)/\Kd.R (Kd.int .i64) 3 w' w.heap.size (fun _=>True) v0_ r/\Below w.heap.size w w':=by
 have HR0:=ak_ hr0;have HC0:=ak_ hc0;clear hr0 hc0;have HB:=ak_ (Below.refl w.heap.size w);have H:(spec_l7Falling.l0 k l0 (([]:List Int)) 0)=some r:=h;clear h;generalize hy524:(([]:List Int):List Int)=y524 at H;have Ny524:=ak_ hy524.symm;clear hy524;have H':=ak_ H;clear H
 go_enter Try.func34,Try.ntmps34
 go_wp2_with (((with_reducible refine gate_dst (N:=6) rfl ?_);refine rl_ (Kd.int .i64) 3 (N:=6) (xs:=([]:List Int)) (inner:=[]) (Reps.none _ _) ?_;intro v525 w2 ho3 hb hg_ hnew_;clear hg_ hnew_;(rw [<-Ny524.out] at ho3);have HO526:=ak_ (Kd.R_lower ho3 (below_size zb));replace HB:=zb1 hb;clear hb ho3))
 go_loopg [3,4] k (fun kq v3 v4 w'=>∃ (x3_1:List Int) (x4_1:Int),v4=.int .i64 x4_1/\Aside0 (spec_l7Falling.l0 kq l0 x3_1 x4_1=some r)/\Aside0 (kq<=k)/\Aside0 (Kd.R (Kd.int .i64) 3 w' w.heap.size (fun _=>True) v3 x3_1)/\Aside0 (Below w.heap.size w w'))
 case atStart=>exact ⟨(y524),(0),zo,H',⟨Nat.le_refl _⟩,⟨zR HO526.out⟩,⟨zb⟩⟩
 case round=>
  clear H';obtain ⟨x3_1,x4_1,rfl,HA,HK1,HO_3,HB⟩:=hrel;cases gk with
  | zero=>exact absurd HA.out (by simp [spec_l7Falling.l0])
  | succ k1=>
   have H:=HA.out;clear HA;simp only [spec_l7Falling.l0] at H;replace H:=gND H;rcases H with ⟨c4b0,H⟩ | ⟨c4b0,H⟩
   ·obtain rfl:=oi_ H
    go_wp2
    go_ret
    exact ⟨_,zz3,zR HO_3.out,zb⟩
   have H':=ak_ H;clear H
   go_wp2
   go_loopg [5] k1 (fun kq v5 w'=>∃ (x5_2:Int),v5=.int .i64 x5_2/\Aside0 (spec_l7Falling.l1 kq l0 x3_1 x4_1 x5_2=some r)/\Aside0 (kq<=k1)/\Aside0 (Kd.R (Kd.int .i64) 3 w' w.heap.size (fun _=>True) u3 x3_1)/\Aside0 (Below w.heap.size w w'))
   case atStart=>exact ⟨(0),zo,H',⟨Nat.le_refl _⟩,⟨zR HO_3.out⟩,⟨zb⟩⟩
   case round=>
    clear H';obtain ⟨x5_2,rfl,HA,HK2,HO_3,HB⟩:=hrel;cases gk with
    | zero=>exact absurd HA.out (by simp [spec_l7Falling.l1])
    | succ k2=>
     have H:=HA.out;clear HA;simp only [spec_l7Falling.l1] at H;replace H:=gND H;rcases H with ⟨c5b0,H⟩ | ⟨c5b0,H⟩
     ·replace H:=gE H;obtain ⟨c33b0,c33b1,H⟩:=H;replace H:=gE H;obtain ⟨c34b0,c34b1,H⟩:=H;generalize hy550:(x3_1.take (x5_2:Int).toNat:List Int)=y550 at H;have Ny550:=ak_ hy550.symm;clear hy550;replace H:=gT H;obtain ⟨t554,A35,H⟩:=H;replace H:=gY H;obtain ⟨y557,Ny557,H⟩:=H;replace H:=gL H;obtain ⟨LMc36,H⟩:=H;replace H:=gY H;obtain ⟨y560,Ny560,H⟩:=H;have c37b0:=eq_true (oz_:0<=x5_2);have c38b0:=eq_true (oz_:x5_2<=(x3_1.length:Int));replace H:=gY H;obtain ⟨y563,Ny563,H⟩:=H;replace H:=gL H;obtain ⟨LMc39,H⟩:=H;generalize hy567:(y560++y563:List Int)=y567 at H;have Ny567:=ak_ hy567.symm;clear hy567;have H':=ak_ H;clear H
      try go_wp2
      replace HO_3:=ak_ (Kd.R_drew HO_3.out);replace HB:=ak_ (below_drew1 HB.out);obtain ⟨Ao41,co41,eo41⟩:=Kd.R_slice HO_3.out
      (subst eo41)
      refine start_ (n:=18) (S:=fun w'=>True) (ds:=[]) #[false,false,false,false,false,false,false,false,false,false,false,false,false,false,false,false,false,false] (by kernel_rfl) rfl rfl trivial (fun hHeld=>?_);refine with_tabW spec_l7Falling.tab6 spec_l7Falling.bits6 (fun HT_ HW_=>?_);generalize wr.drew=w40 at HO_3 HB hHeld ⊢;refine pu_ 0 13 ?_;refine pu_ 1 14 ?_;refine pu_ 2 15 ?_;refine pu_ 3 16 ?_;refine pu_ 4 17 ?_;refine pv_ 5 18 ?_;refine pv_ 6 19 ?_;refine pv_ 7 20 ?_;refine pv_ 8 21 ?_;refine pv_ 9 22 ?_;refine pv_ 10 23 ?_;refine pv_ 11 24 ?_;refine pv_ 12 25 ?_;refine pv_ 13 26 ?_;refine pv_ 14 27 ?_;refine pv_ 15 28 ?_;refine pv_ 16 29 ?_;refine pu_ 17 30 ?_;refine done_ (done_of HT_.out (by kernel_rfl)) ?_
      try go_wp2
      replace HO_3:=ak_ (Kd.R_drew HO_3.out);replace HB:=ak_ (below_drew1 HB.out);have q43:(x5_2:Int)<=((x3_1.length:Int):Int):=oz_;obtain ⟨i043,hi043,_,hsz43,_⟩:=info_parts info3;have hroom43:x3_1.length<=co41:=(r1_ HO_3);have hC43:Kd.C (Kd.int .i64) _ Ao41 x3_1.length x3_1:=(r2_ HO_3);have hcut43:=cut_to (P:=Try.prog) 34 3 .i64 Try.underlying34 hi043 Ao41 x3_1.length co41 x5_2 (oz_) q43 hroom43;have hr43:=Kd.C_take (m:=(x5_2:Int).toNat) hC43 (by omega);have hy43:y550.length=(x5_2:Int).toNat:=(by rw [Ny550.out,List.length_take];omega);rw [<-Ny550.out] at hr43;rw [<-hy43] at hcut43;have HR553:=ak_ hr43;have HC553:=ak_ (show y550.length<=co41 from by omega);clear hr43 hC43 hroom43 hi043 hsz43;have KY43:=ak_ hy43;clear hy43;have KL43:=ak_ (show (x5_2:Int).toNat<=x3_1.length from by omega);replace q43:=eq_true q43;have q44:(x5_2:Int)<=((x3_1.length:Int):Int):=oz_;obtain ⟨i044,hi044,_,hsz44,_⟩:=info_parts info3;have hroom44:x3_1.length<=co41:=(r1_ HO_3);have hC44:Kd.C (Kd.int .i64) _ Ao41 x3_1.length x3_1:=(r2_ HO_3);have q044:(0:Int)<=(x5_2:Int):=oz_;have hcut44:=cut_from (P:=Try.prog) 34 3 .i64 Try.underlying34 hi044 1 hsz44 Ao41 x3_1.length co41 x5_2 q044 q44;have hr44:=Kd.C_drop (m:=(x5_2:Int).toNat) (c:=co41) hC44 (by omega) hroom44;obtain ⟨A44,hA44⟩:∃ Az_,Az_=(if co41=(x5_2:Int).toNat then Ao41 else (Ao41:Option Addr).map (·.add ((x5_2:Int).toNat * 1))):=⟨_,rfl⟩;obtain ⟨c44,hc44⟩:∃ cz_,cz_=co41 - (x5_2:Int).toNat:=⟨_,rfl⟩;have hy44:y563.length=x3_1.length - (x5_2:Int).toNat:=(by rw [Ny563.out,List.length_drop] <;> omega);rw [show (x3_1).drop (x5_2:Int).toNat=y563 from Ny563.out.symm] at hr44;replace hr44:Kd.C (Kd.int .i64) _ A44 y563.length y563:=(by rw [hA44];exact hr44);rw [<-hy44,<-hA44,<-hc44] at hcut44;have HR566:=ak_ hr44;have HC566:=ak_ (show y563.length<=c44 from by rw [hy44,hc44];exact Nat.sub_le_sub_right hroom44 _);clear hr44 hC44 hroom44 hi044 hsz44 hc44;have KY44:=ak_ hy44;have KA44:=ak_ hA44;clear hy44 hA44;have KL44:=ak_ (show (x5_2:Int).toNat<=x3_1.length from by omega);replace q44:=eq_true q44;refine start_ (n:=12) (S:=fun w'=>True) (ds:=[]) #[false,false,false,false,false,false,false,false,false,false,false,false] (by kernel_rfl) rfl rfl trivial (fun hHeld=>?_);refine with_tabW spec_l7Falling.tab8 spec_l7Falling.bits8 (fun HT_ HW_=>?_);generalize w40.drew=w42 at HO_3 HB HR553 HR566 hHeld ⊢;refine pu_ 0 33 ?_;refine pu_ 1 34 ?_;refine pu_ 2 35 ?_;refine pu_ 4 37 ?_;refine pu_ 7 40 ?_;refine pu_ 8 41 ?_;refine pu_ 9 42 ?_;refine join_ (σ:=Value × Value) 3 #[true,true,true,true,true,true,false,true,true,true,false,false] (fun s_=>[(36,s_.1),(38,s_.2)]) (fun s_ w'=>(Kd.R (Kd.int .i64) 3 w' w.heap.size (fun k_=>some k_≠(s_.2:Value).ownBlock/\some k_≠(.slice Ao41 x3_1.length co41:Value).ownBlock) s_.1 t554)/\(Kd.R (Kd.int .i64) 3 w' w.heap.size (fun k_=>some k_≠(s_.1:Value).ownBlock/\some k_≠(.slice Ao41 x3_1.length co41:Value).ownBlock) s_.2 y557)/\(Kd.R (Kd.int .i64) 3 w' w.heap.size (fun k_=>some k_≠(s_.1:Value).ownBlock/\some k_≠(s_.2:Value).ownBlock) (.slice Ao41 x3_1.length co41) x3_1)/\(Below w.heap.size w w')) ?_ ?_;rotate_left
      ·intro hCont;refine two_ (i:=3) (j:=5) (Ni:=some 36) (Nj:=some 38) #[true,true,true,true,true,false,false,true,true,true,false,false] #[true,true,true,false,true,true,false,true,true,true,false,false] rfl rfl rfl rfl (two_of HT_.out (by kernel_rfl)) (by decide) (by decide) (fun K hK=>?_) (fun K hK=>?_)
       ·skip
        refine goes_ Try.func61 (by kernel_rfl) rfl #[.slice Ao41 y550.length co41] (by rfl) rfl rfl zl ?_
        with_reducible refine (spec_l1Own.calls _ _ y550 t554 _ ?side1 ?side2 A35.out).mono ?_
        (case side1=>exact zz75)
        (case side2=>exact HC553.out)
        rintro e w45 ⟨v555,rfl,ho0,hb⟩;refine ⟨_,rfl,?_⟩;have n0_:=ak_ (Kd.R_elder' (zR HO_3.out) (Kd.R_base ho0) hb);have n1_:=ak_ (Kd.R_lower (Kd.R_new' ho0 (Kd.R_lt (zR HO_3.out))) (below_size zb));have n2_:=ak_ (Kd.C_below zz49 hb);have n3_:=ak_ (Kd.C_below zz59 hb);have n4_:=zb1 hb;clear HO_3;clear HR553;clear HR566;clear HB;have HO_3:=n0_;have HO556:=n1_;have HR553:=n2_;have HR566:=n3_;have HB:=n4_;clear n0_ n1_ n2_ n3_ n4_;refine hK.out _ _ trivial (fun hHeld=>?_);clear hK K;refine norm_ (a':=?_) ?_ ?_;rotate_left
        ·show Act.put _ (some 36) _=_
         simp only [Act.put,List.setIfInBounds_toArray,List.set_cons_zero,List.set_cons_succ,i64_w,i32_w]
         rfl
        refine one_ (i:=5) (N:=some 38) #[true,true,true,true,true,true,false,true,true,true,false,false] rfl rfl (one_of HT_.out (by kernel_rfl)) (by decide) (fun K hK=>?_);refine Kd.R_lit_step (Kd.int .i64) _ 3 ?hg (N:=38) ?hd (xs:=([x4_1]:List Int)) (inner:=[.int .i64 x4_1]) (ok:=fun _=>True) (okp:=fun _=>True) ?hr ?hp (fun _ hk=>hk) trivial (Below.refl _ _) (Nat.le_refl _) (by simp) ?_;(case hd=>rfl);(case hg=>rfl);(case hr=>(go_simp;done));(case hp=>exact (Reps.one (show Kd.M (Kd.int .i64) _ _ _ x4_1 [.int .i64 x4_1] from rfl) (Reps.none _ _)));intro v558 w46 ho47 hb hg_ hnew_;clear hg_ hnew_
        (rw [<-Ny557.out] at ho47)
        have n0_:=ak_ (Kd.R_elder' (zR HO_3.out) (Kd.R_base ho47) hb);have n1_:=ak_ (Kd.R_elder' (zR HO556.out) (Kd.R_base ho47) hb);have n2_:=ak_ (Kd.R_lower (Kd.R_new' (Kd.R_new' ho47 (Kd.R_lt (zR HO_3.out))) (Kd.R_lt (zR HO556.out))) (below_size zb));have n3_:=ak_ (Kd.C_below zz49 hb);have n4_:=ak_ (Kd.C_below zz59 hb);have n5_:=zb1 hb;clear HO_3;clear HO556;clear HR553;clear HR566;clear HB;have HO_3:=n0_;have HO556:=n1_;have HO559:=n2_;have HR553:=n3_;have HR566:=n4_;have HB:=n5_;clear n0_ n1_ n2_ n3_ n4_ n5_;clear hb ho47;refine hK.out _ _ trivial (fun hHeld=>?_);clear hK K;refine norm_ (a':=?_) ?_ ?_;rotate_left
        ·show Act.put _ (some 38) _=_
         simp only [Act.put,List.setIfInBounds_toArray,List.set_cons_zero,List.set_cons_succ,i64_w,i32_w]
         rfl
        exact norm_ zz60 (hCont (v555,v558) _ ⟨(zR (Kd.R_mono HO556.out (fun _ hk=>⟨hk.2,hk.1.2⟩))),(zR (Kd.R_mono HO559.out (fun _ hk=>⟨hk.2,hk.1.2⟩))),(zR (Kd.R_mono HO_3.out (fun _ hk=>⟨hk.1.2,hk.2⟩))),zb⟩)
       ·skip
        refine Kd.R_lit_step (Kd.int .i64) _ 3 ?hg (N:=38) ?hd (xs:=([x4_1]:List Int)) (inner:=[.int .i64 x4_1]) (ok:=fun _=>True) (okp:=fun _=>True) ?hr ?hp (fun _ hk=>hk) trivial (Below.refl _ _) (Nat.le_refl _) (by simp) ?_;(case hd=>rfl);(case hg=>rfl);(case hr=>(go_simp;done));(case hp=>exact (Reps.one (show Kd.M (Kd.int .i64) _ _ _ x4_1 [.int .i64 x4_1] from rfl) (Reps.none _ _)));intro v558 w45 ho46 hb hg_ hnew_;clear hg_ hnew_
        (rw [<-Ny557.out] at ho46)
        have n0_:=ak_ (Kd.R_elder' (zR HO_3.out) (Kd.R_base ho46) hb);have n1_:=ak_ (Kd.R_lower (Kd.R_new' ho46 (Kd.R_lt (zR HO_3.out))) (below_size zb));have n2_:=ak_ (Kd.C_below zz49 hb);have n3_:=ak_ (Kd.C_below zz59 hb);have n4_:=zb1 hb;clear HO_3;clear HR553;clear HR566;clear HB;have HO_3:=n0_;have HO559:=n1_;have HR553:=n2_;have HR566:=n3_;have HB:=n4_;clear n0_ n1_ n2_ n3_ n4_;clear hb ho46;refine hK.out _ _ trivial (fun hHeld=>?_);clear hK K;refine norm_ (a':=?_) ?_ ?_;rotate_left
        ·show Act.put _ (some 38) _=_
         simp only [Act.put,List.setIfInBounds_toArray,List.set_cons_zero,List.set_cons_succ,i64_w,i32_w]
         rfl
        refine one_ (i:=3) (N:=some 36) #[true,true,true,true,true,true,false,true,true,true,false,false] rfl rfl (one_of HT_.out (by kernel_rfl)) (by decide) (fun K hK=>?_);refine goes_ Try.func61 (by kernel_rfl) rfl #[.slice Ao41 y550.length co41] (by rfl) rfl rfl zl ?_
        with_reducible refine (spec_l1Own.calls _ _ y550 t554 _ ?side1 ?side2 A35.out).mono ?_
        (case side1=>exact zz75)
        (case side2=>exact HC553.out)
        rintro e w47 ⟨v555,rfl,ho0,hb⟩;refine ⟨_,rfl,?_⟩;have n0_:=ak_ (Kd.R_elder' (zR HO_3.out) (Kd.R_base ho0) hb);have n1_:=ak_ (Kd.R_elder' (zR HO559.out) (Kd.R_base ho0) hb);have n2_:=ak_ (Kd.R_lower (Kd.R_new' (Kd.R_new' ho0 (Kd.R_lt (zR HO_3.out))) (Kd.R_lt (zR HO559.out))) (below_size zb));have n3_:=ak_ (Kd.C_below zz49 hb);have n4_:=ak_ (Kd.C_below zz59 hb);have n5_:=zb1 hb;clear HO_3;clear HO559;clear HR553;clear HR566;clear HB;have HO_3:=n0_;have HO559:=n1_;have HO556:=n2_;have HR553:=n3_;have HR566:=n4_;have HB:=n5_;clear n0_ n1_ n2_ n3_ n4_ n5_;refine hK.out _ _ trivial (fun hHeld=>?_);clear hK K;refine norm_ (a':=?_) ?_ ?_;rotate_left
        ·show Act.put _ (some 36) _=_
         simp only [Act.put,List.setIfInBounds_toArray,List.set_cons_zero,List.set_cons_succ,i64_w,i32_w]
         rfl
        exact norm_ zz60 (hCont (v555,v558) _ ⟨(zR (Kd.R_mono HO556.out (fun _ hk=>⟨hk.2,hk.1.2⟩))),(zR (Kd.R_mono HO559.out (fun _ hk=>⟨hk.2,hk.1.2⟩))),(zR (Kd.R_mono HO_3.out (fun _ hk=>⟨hk.2,hk.1.2⟩))),zb⟩)
      rintro ⟨v555,v558⟩ w48 ⟨h0_,h1_,h2_,h3_⟩;have n0_:Aside0 (Kd.R (Kd.int .i64) 3 w48 w.heap.size (fun k_=>some k_≠(v558:Value).ownBlock/\some k_≠(.slice Ao41 x3_1.length co41:Value).ownBlock) v555 t554):=⟨h0_⟩;have n1_:Aside0 (Kd.R (Kd.int .i64) 3 w48 w.heap.size (fun k_=>some k_≠(v555:Value).ownBlock/\some k_≠(.slice Ao41 x3_1.length co41:Value).ownBlock) v558 y557):=⟨h1_⟩;have n2_:Aside0 (Kd.R (Kd.int .i64) 3 w48 w.heap.size (fun k_=>some k_≠(v555:Value).ownBlock/\some k_≠(v558:Value).ownBlock) (.slice Ao41 x3_1.length co41) x3_1):=⟨h2_⟩;have n3_:Aside0 (Below w.heap.size w w48):=⟨h3_⟩;clear HO_3;clear HB;clear h0_ h1_ h2_ h3_;have HO556:=n0_;have HO559:=n1_;have HO_3:=n2_;have HB:=n3_;clear n0_ n1_ n2_ n3_;have hHeld:=trivial;obtain ⟨Ao50,co50,eo50⟩:=Kd.R_slice HO559.out
      (subst eo50)
      refine norm_ (a':=?_) ?_ ?_;rotate_left
      ·simp only [putAll,Act.put,List.setIfInBounds_toArray,List.set_cons_zero,List.set_cons_succ]
       rfl
      refine one_ (i:=6) (N:=some 39) #[true,true,true,true,true,true,true,true,true,true,false,false] rfl rfl (one_of HT_.out (by kernel_rfl)) (by decide) (fun K hK=>?_);refine Kd.R_append_rows_step (Kd.int .i64) (w0:=w) w.heap.size (by rfl) (.tmp 36) (.tmp 38) 34 3 (.int .i64 0) 8 rfl Try.underlying34 info3 rfl (by decide) (by omega) v555 t554 y557 _ _ _ (fun k_=>some k_≠(.slice Ao41 x3_1.length co41:Value).ownBlock/\some k_≠(.slice Ao50 y557.length co50:Value).ownBlock) (fun _=>False) rfl rfl ?aO ?aR (fun _ _ h=>h) (fun _ h=>h.elim) ?aF ?aB ?aS ?aL ?_
      (case aR=>exact zC (r2_ HO559))
      (case aB=>exact zb)
      (case aF=>exact (fun k_ hk=>⟨Kd.fresh' (Kd.R_lt (zR HO_3.out)) k_ hk,Kd.fresh' (Kd.R_lt (zR HO559.out)) k_ hk⟩))
      (case aO=>exact (zR (Kd.R_mono HO556.out (fun _ hk=>⟨hk.2,hk.1⟩))))
      (case aS=>exact (below_size zb))
      (case aL=>have:=LMc36.out;omega)
      intro v561 w49 ho hb hg hat
      rw [<-Ny560.out] at ho;replace HO_3:=ak_ (Kd.R_after (ok:=(fun k_=>some k_≠(.slice Ao50 y557.length co50:Value).ownBlock)) (zR (Kd.R_mono HO_3.out (fun _ hk=>⟨hk.2,hk.1⟩))) hg hat);replace HO559:=ak_ (Kd.R_after (ok:=(fun k_=>some k_≠(.slice Ao41 x3_1.length co41:Value).ownBlock)) (zR (Kd.R_mono HO559.out (fun _ hk=>⟨hk.2,hk.1⟩))) hg hat);replace HB:=ak_ (hb);have HO562:=ak_ (ho);clear HO556;clear ho hb hg hat
      refine hK.out _ _ trivial (fun hHeld=>?_);clear hK K;refine norm_ (a':=?_) ?_ ?_;rotate_left
      ·show Act.put _ (some 39) _=_
       simp only [Act.put,List.setIfInBounds_toArray,List.set_cons_zero,List.set_cons_succ,i64_w,i32_w]
       rfl
      refine one_ (i:=10) (N:=some 43) #[true,true,true,true,true,true,true,true,true,true,true,false] rfl rfl (one_of HT_.out (by kernel_rfl)) (by decide) (fun K hK=>?_);refine Kd.R_append_rows_step (Kd.int .i64) (w0:=w) w.heap.size (by rfl) (.tmp 39) (.tmp 42) 34 3 (.int .i64 0) 8 rfl Try.underlying34 info3 rfl (by decide) (by omega) v561 y560 y563 _ _ _ (fun k_=>some k_≠(.slice Ao41 x3_1.length co41:Value).ownBlock/\some k_≠(.slice Ao50 y557.length co50:Value).ownBlock) (fun _=>False) rfl rfl ?aO ?aR (fun _ _ h=>h) (fun _ h=>h.elim) ?aF ?aB ?aS ?aL ?_
      (case aR=>exact (by rw [Ny563.out,KA44.out];exact Kd.C_drop (m:=(x5_2:Int).toNat) (c:=co41) ((Kd.R_reads' (HO_3.out)).2.2) KL44.out ((Kd.R_reads' (HO_3.out)).2.1)))
      (case aB=>exact zb)
      (case aF=>exact (fun k_ hk=>⟨Kd.fresh' (Kd.R_lt (zR HO_3.out)) k_ hk,Kd.fresh' (Kd.R_lt (zR HO559.out)) k_ hk⟩))
      (case aO=>exact (zR HO562.out))
      (case aS=>exact (below_size zb))
      (case aL=>have:=LMc39.out;omega)
      intro v568 w51 ho hb hg hat
      rw [<-Ny567.out] at ho;replace HO_3:=ak_ (Kd.R_after (ok:=(fun k_=>some k_≠(.slice Ao50 y557.length co50:Value).ownBlock)) (zR HO_3.out) hg hat);replace HO559:=ak_ (Kd.R_after (ok:=(fun k_=>some k_≠(.slice Ao41 x3_1.length co41:Value).ownBlock)) (zR HO559.out) hg hat);replace HB:=ak_ (hb);have HO569:=ak_ (ho);clear HO562;clear ho hb hg hat
      refine hK.out _ _ trivial (fun hHeld=>?_);clear hK K;refine norm_ (a':=?_) ?_ ?_;rotate_left
      ·show Act.put _ (some 43) _=_
       simp only [Act.put,List.setIfInBounds_toArray,List.set_cons_zero,List.set_cons_succ,i64_w,i32_w]
       rfl
      refine pu_ 11 3 ?_;refine done_ (done_of HT_.out (by kernel_rfl)) ?_
      try go_wp2
      go_roundg k2
      case measure=>have:=HK1.out;have:=HK2.out;omega
      case rel=>exact ⟨(y567),(wrap64 (x4_1 + 1)),zo,H',⟨zz5⟩,⟨zR (Kd.R_mono HO569.out (fun _ hk=>trivial))⟩,⟨zb⟩⟩
     replace H:=gD H;obtain ⟨c6b0,H⟩:=H;replace H:=gD H;obtain ⟨c7b0,H⟩:=H;replace H:=gD H;obtain ⟨c8b0,H⟩:=H;replace H:=gD H;obtain ⟨c9b0,H⟩:=H;replace H:=gD H;obtain ⟨c10b0,H⟩:=H;replace H:=gPD H;rcases H with ⟨c11b0,H⟩ | ⟨c11b0,H⟩
     ·have H':=ak_ H;clear H
      try go_wp2
      replace HO_3:=ak_ (Kd.R_drew HO_3.out);replace HB:=ak_ (below_drew1 HB.out);obtain ⟨Ao13,co13,eo13⟩:=Kd.R_slice HO_3.out
      (subst eo13)
      obtain ⟨p527,q527,ad527,e527,hx527_0⟩:=ab_ (Kd.at_int (r2_ HO_3) x5_2);cases e527;obtain ⟨p528,q528,ad528,e528,hx528_0⟩:=ab_ (Kd.at_int HR0.out (rd x3_1 x5_2));have hw528_0:=hx528_0;cases e528;replace hx528_0:=zh_ HB hx528_0;obtain ⟨p529,q529,ad529,e529,hx529_0⟩:=ab_ (Kd.at_int HR0.out x4_1);have hw529_0:=hx529_0;obtain rfl:ad528=ad529:=(by injection e529);replace hx529_0:=zh_ HB hx529_0;refine start_ (n:=18) (S:=fun w'=>w'.cell? (ad527.add (x5_2).toNat)=some (.int .i64 (rd x3_1 x5_2))/\w'.cell? (ad528.add ((rd x3_1 x5_2)).toNat)=some (.int .i64 (rd l0 (rd x3_1 x5_2)))/\w'.cell? (ad528.add (x4_1).toNat)=some (.int .i64 (rd l0 x4_1))) (ds:=[]) #[false,false,false,false,false,false,false,false,false,false,false,false,false,false,false,false,false,false] (by kernel_rfl) rfl rfl ⟨hx527_0,(zq_ HB hw528_0:),(zq_ HB hw529_0:)⟩ (fun hHeld=>?_);refine with_tabW spec_l7Falling.tab6 spec_l7Falling.bits6 (fun HT_ HW_=>?_);generalize wr.drew=w12 at HO_3 HB hx527_0 hx528_0 hx529_0 hHeld ⊢;refine pu_ 0 13 ?_;refine pu_ 1 14 ?_;refine pu_ 2 15 ?_;refine pu_ 3 16 ?_;refine pu_ 4 17 ?_;refine pu_ 5 18 ?_;refine pu_ 6 19 ?_;refine pu_ 7 20 ?_;refine pu_ 8 21 ?_;refine pu_ 12 25 ?_;refine pu_ 13 26 ?_;refine pu_ 14 27 ?_;refine tk_ 9 22 hHeld ?_;refine pu_ 10 23 ?_;refine tk_ 11 24 hHeld ?_;refine tk_ 15 28 hHeld ?_;refine pu_ 16 29 ?_;refine pu_ 17 30 ?_;refine done_ (done_of HT_.out (by kernel_rfl)) ?_
      try go_wp2
      go_roundg k2
      case measure=>have:=HK1.out;have:=HK2.out;omega
      case rel=>exact ⟨(wrap64 (x5_2 + 1)),zo,H',⟨zz5⟩,⟨zR HO_3.out⟩,⟨zb⟩⟩
     have c14b0:=eq_true (oz_:0<=x5_2);replace H:=gE H;obtain ⟨c15b0,c15b1,H⟩:=H;generalize hy530:(x3_1.take (x5_2:Int).toNat:List Int)=y530 at H;have Ny530:=ak_ hy530.symm;clear hy530;replace H:=gT H;obtain ⟨t534,A16,H⟩:=H;replace H:=gY H;obtain ⟨y537,Ny537,H⟩:=H;replace H:=gL H;obtain ⟨LMc17,H⟩:=H;replace H:=gY H;obtain ⟨y540,Ny540,H⟩:=H;have c18b0:=eq_true (oz_:0<=x5_2);have c19b0:=eq_true (oz_:x5_2<=(x3_1.length:Int));replace H:=gY H;obtain ⟨y543,Ny543,H⟩:=H;replace H:=gL H;obtain ⟨LMc20,H⟩:=H;generalize hy547:(y540++y543:List Int)=y547 at H;have Ny547:=ak_ hy547.symm;clear hy547;have H':=ak_ H;clear H
     try go_wp2
     replace HO_3:=ak_ (Kd.R_drew HO_3.out);replace HB:=ak_ (below_drew1 HB.out);obtain ⟨Ao22,co22,eo22⟩:=Kd.R_slice HO_3.out
     (subst eo22)
     obtain ⟨p527,q527,ad527,e527,hx527_0⟩:=ab_ (Kd.at_int (r2_ HO_3) x5_2);cases e527;obtain ⟨p528,q528,ad528,e528,hx528_0⟩:=ab_ (Kd.at_int HR0.out (rd x3_1 x5_2));have hw528_0:=hx528_0;cases e528;replace hx528_0:=zh_ HB hx528_0;obtain ⟨p529,q529,ad529,e529,hx529_0⟩:=ab_ (Kd.at_int HR0.out x4_1);have hw529_0:=hx529_0;obtain rfl:ad528=ad529:=(by injection e529);replace hx529_0:=zh_ HB hx529_0;refine start_ (n:=18) (S:=fun w'=>w'.cell? (ad527.add (x5_2).toNat)=some (.int .i64 (rd x3_1 x5_2))/\w'.cell? (ad528.add ((rd x3_1 x5_2)).toNat)=some (.int .i64 (rd l0 (rd x3_1 x5_2)))/\w'.cell? (ad528.add (x4_1).toNat)=some (.int .i64 (rd l0 x4_1))) (ds:=[]) #[false,false,false,false,false,false,false,false,false,false,false,false,false,false,false,false,false,false] (by kernel_rfl) rfl rfl ⟨hx527_0,(zq_ HB hw528_0:),(zq_ HB hw529_0:)⟩ (fun hHeld=>?_);refine with_tabW spec_l7Falling.tab6 spec_l7Falling.bits6 (fun HT_ HW_=>?_);generalize wr.drew=w21 at HO_3 HB hx527_0 hx528_0 hx529_0 hHeld ⊢;refine pu_ 0 13 ?_;refine pu_ 1 14 ?_;refine pu_ 2 15 ?_;refine pu_ 3 16 ?_;refine pu_ 4 17 ?_;refine pu_ 5 18 ?_;refine pu_ 6 19 ?_;refine pu_ 7 20 ?_;refine pu_ 8 21 ?_;refine pu_ 12 25 ?_;refine pu_ 13 26 ?_;refine pu_ 14 27 ?_;refine tk_ 9 22 hHeld ?_;refine pu_ 10 23 ?_;refine tk_ 11 24 hHeld ?_;refine tk_ 15 28 hHeld ?_;refine pu_ 16 29 ?_;refine pu_ 17 30 ?_;refine done_ (done_of HT_.out (by kernel_rfl)) ?_
     try go_wp2
     replace HO_3:=ak_ (Kd.R_drew HO_3.out);replace HB:=ak_ (below_drew1 HB.out);have q24:(x5_2:Int)<=((x3_1.length:Int):Int):=oz_;obtain ⟨i024,hi024,_,hsz24,_⟩:=info_parts info3;have hroom24:x3_1.length<=co22:=(r1_ HO_3);have hC24:Kd.C (Kd.int .i64) _ (some ad527) x3_1.length x3_1:=(r2_ HO_3);have hcut24:=cut_to (P:=Try.prog) 34 3 .i64 Try.underlying34 hi024 (some ad527) x3_1.length co22 x5_2 (oz_) q24 hroom24;have hr24:=Kd.C_take (m:=(x5_2:Int).toNat) hC24 (by omega);have hy24:y530.length=(x5_2:Int).toNat:=(by rw [Ny530.out,List.length_take];omega);rw [<-Ny530.out] at hr24;rw [<-hy24] at hcut24;have HR533:=ak_ hr24;have HC533:=ak_ (show y530.length<=co22 from by omega);clear hr24 hC24 hroom24 hi024 hsz24;have KY24:=ak_ hy24;clear hy24;have KL24:=ak_ (show (x5_2:Int).toNat<=x3_1.length from by omega);replace q24:=eq_true q24;have q25:(x5_2:Int)<=((x3_1.length:Int):Int):=oz_;obtain ⟨i025,hi025,_,hsz25,_⟩:=info_parts info3;have hroom25:x3_1.length<=co22:=(r1_ HO_3);have hC25:Kd.C (Kd.int .i64) _ (some ad527) x3_1.length x3_1:=(r2_ HO_3);have q025:(0:Int)<=(x5_2:Int):=oz_;have hcut25:=cut_from (P:=Try.prog) 34 3 .i64 Try.underlying34 hi025 1 hsz25 (some ad527) x3_1.length co22 x5_2 q025 q25;have hr25:=Kd.C_drop (m:=(x5_2:Int).toNat) (c:=co22) hC25 (by omega) hroom25;obtain ⟨A25,hA25⟩:∃ Az_,Az_=(if co22=(x5_2:Int).toNat then (some ad527) else ((some ad527):Option Addr).map (·.add ((x5_2:Int).toNat * 1))):=⟨_,rfl⟩;obtain ⟨c25,hc25⟩:∃ cz_,cz_=co22 - (x5_2:Int).toNat:=⟨_,rfl⟩;have hy25:y543.length=x3_1.length - (x5_2:Int).toNat:=(by rw [Ny543.out,List.length_drop] <;> omega);rw [show (x3_1).drop (x5_2:Int).toNat=y543 from Ny543.out.symm] at hr25;replace hr25:Kd.C (Kd.int .i64) _ A25 y543.length y543:=(by rw [hA25];exact hr25);rw [<-hy25,<-hA25,<-hc25] at hcut25;have HR546:=ak_ hr25;have HC546:=ak_ (show y543.length<=c25 from by rw [hy25,hc25];exact Nat.sub_le_sub_right hroom25 _);clear hr25 hC25 hroom25 hi025 hsz25 hc25;have KY25:=ak_ hy25;have KA25:=ak_ hA25;clear hy25 hA25;have KL25:=ak_ (show (x5_2:Int).toNat<=x3_1.length from by omega);replace q25:=eq_true q25;refine start_ (n:=12) (S:=fun w'=>True) (ds:=[]) #[false,false,false,false,false,false,false,false,false,false,false,false] (by kernel_rfl) rfl rfl trivial (fun hHeld=>?_);refine with_tabW spec_l7Falling.tab8 spec_l7Falling.bits8 (fun HT_ HW_=>?_);generalize w21.drew=w23 at HO_3 HB HR533 HR546 hHeld ⊢;refine pu_ 0 33 ?_;refine pu_ 1 34 ?_;refine pu_ 2 35 ?_;refine pu_ 4 37 ?_;refine pu_ 7 40 ?_;refine pu_ 8 41 ?_;refine pu_ 9 42 ?_;refine join_ (σ:=Value × Value) 3 #[true,true,true,true,true,true,false,true,true,true,false,false] (fun s_=>[(36,s_.1),(38,s_.2)]) (fun s_ w'=>(Kd.R (Kd.int .i64) 3 w' w.heap.size (fun k_=>some k_≠(s_.2:Value).ownBlock/\some k_≠(.slice (some ad527) x3_1.length co22:Value).ownBlock) s_.1 t534)/\(Kd.R (Kd.int .i64) 3 w' w.heap.size (fun k_=>some k_≠(s_.1:Value).ownBlock/\some k_≠(.slice (some ad527) x3_1.length co22:Value).ownBlock) s_.2 y537)/\(Kd.R (Kd.int .i64) 3 w' w.heap.size (fun k_=>some k_≠(s_.1:Value).ownBlock/\some k_≠(s_.2:Value).ownBlock) (.slice (some ad527) x3_1.length co22) x3_1)/\(Below w.heap.size w w')) ?_ ?_;rotate_left
     ·intro hCont;refine two_ (i:=3) (j:=5) (Ni:=some 36) (Nj:=some 38) #[true,true,true,true,true,false,false,true,true,true,false,false] #[true,true,true,false,true,true,false,true,true,true,false,false] rfl rfl rfl rfl (two_of HT_.out (by kernel_rfl)) (by decide) (by decide) (fun K hK=>?_) (fun K hK=>?_)
      ·skip
       refine goes_ Try.func61 (by kernel_rfl) rfl #[.slice (some ad527) y530.length co22] (by rfl) rfl rfl zl ?_
       with_reducible refine (spec_l1Own.calls _ _ y530 t534 _ ?side1 ?side2 A16.out).mono ?_
       (case side1=>exact zz76)
       (case side2=>exact HC533.out)
       rintro e w26 ⟨v535,rfl,ho0,hb⟩;refine ⟨_,rfl,?_⟩;have n0_:=ak_ (Kd.R_elder' (zR HO_3.out) (Kd.R_base ho0) hb);have n1_:=ak_ (Kd.R_lower (Kd.R_new' ho0 (Kd.R_lt (zR HO_3.out))) (below_size zb));have n2_:=ak_ (Kd.C_below zz50 hb);have n3_:=ak_ (Kd.C_below zz61 hb);have n4_:=zb1 hb;clear HO_3;clear HR533;clear HR546;clear HB;have HO_3:=n0_;have HO536:=n1_;have HR533:=n2_;have HR546:=n3_;have HB:=n4_;clear n0_ n1_ n2_ n3_ n4_;refine hK.out _ _ trivial (fun hHeld=>?_);clear hK K;refine norm_ (a':=?_) ?_ ?_;rotate_left
       ·show Act.put _ (some 36) _=_
        simp only [Act.put,List.setIfInBounds_toArray,List.set_cons_zero,List.set_cons_succ,i64_w,i32_w]
        rfl
       refine one_ (i:=5) (N:=some 38) #[true,true,true,true,true,true,false,true,true,true,false,false] rfl rfl (one_of HT_.out (by kernel_rfl)) (by decide) (fun K hK=>?_);refine Kd.R_lit_step (Kd.int .i64) _ 3 ?hg (N:=38) ?hd (xs:=([x4_1]:List Int)) (inner:=[.int .i64 x4_1]) (ok:=fun _=>True) (okp:=fun _=>True) ?hr ?hp (fun _ hk=>hk) trivial (Below.refl _ _) (Nat.le_refl _) (by simp) ?_;(case hd=>rfl);(case hg=>rfl);(case hr=>(go_simp;done));(case hp=>exact (Reps.one (show Kd.M (Kd.int .i64) _ _ _ x4_1 [.int .i64 x4_1] from rfl) (Reps.none _ _)));intro v538 w27 ho28 hb hg_ hnew_;clear hg_ hnew_
       (rw [<-Ny537.out] at ho28)
       have n0_:=ak_ (Kd.R_elder' (zR HO_3.out) (Kd.R_base ho28) hb);have n1_:=ak_ (Kd.R_elder' (zR HO536.out) (Kd.R_base ho28) hb);have n2_:=ak_ (Kd.R_lower (Kd.R_new' (Kd.R_new' ho28 (Kd.R_lt (zR HO_3.out))) (Kd.R_lt (zR HO536.out))) (below_size zb));have n3_:=ak_ (Kd.C_below zz50 hb);have n4_:=ak_ (Kd.C_below zz61 hb);have n5_:=zb1 hb;clear HO_3;clear HO536;clear HR533;clear HR546;clear HB;have HO_3:=n0_;have HO536:=n1_;have HO539:=n2_;have HR533:=n3_;have HR546:=n4_;have HB:=n5_;clear n0_ n1_ n2_ n3_ n4_ n5_;clear hb ho28;refine hK.out _ _ trivial (fun hHeld=>?_);clear hK K;refine norm_ (a':=?_) ?_ ?_;rotate_left
       ·show Act.put _ (some 38) _=_
        simp only [Act.put,List.setIfInBounds_toArray,List.set_cons_zero,List.set_cons_succ,i64_w,i32_w]
        rfl
       exact norm_ zz60 (hCont (v535,v538) _ ⟨(zR (Kd.R_mono HO536.out (fun _ hk=>⟨hk.2,hk.1.2⟩))),(zR (Kd.R_mono HO539.out (fun _ hk=>⟨hk.2,hk.1.2⟩))),(zR (Kd.R_mono HO_3.out (fun _ hk=>⟨hk.1.2,hk.2⟩))),zb⟩)
      ·skip
       refine Kd.R_lit_step (Kd.int .i64) _ 3 ?hg (N:=38) ?hd (xs:=([x4_1]:List Int)) (inner:=[.int .i64 x4_1]) (ok:=fun _=>True) (okp:=fun _=>True) ?hr ?hp (fun _ hk=>hk) trivial (Below.refl _ _) (Nat.le_refl _) (by simp) ?_;(case hd=>rfl);(case hg=>rfl);(case hr=>(go_simp;done));(case hp=>exact (Reps.one (show Kd.M (Kd.int .i64) _ _ _ x4_1 [.int .i64 x4_1] from rfl) (Reps.none _ _)));intro v538 w26 ho27 hb hg_ hnew_;clear hg_ hnew_
       (rw [<-Ny537.out] at ho27)
       have n0_:=ak_ (Kd.R_elder' (zR HO_3.out) (Kd.R_base ho27) hb);have n1_:=ak_ (Kd.R_lower (Kd.R_new' ho27 (Kd.R_lt (zR HO_3.out))) (below_size zb));have n2_:=ak_ (Kd.C_below zz50 hb);have n3_:=ak_ (Kd.C_below zz61 hb);have n4_:=zb1 hb;clear HO_3;clear HR533;clear HR546;clear HB;have HO_3:=n0_;have HO539:=n1_;have HR533:=n2_;have HR546:=n3_;have HB:=n4_;clear n0_ n1_ n2_ n3_ n4_;clear hb ho27;refine hK.out _ _ trivial (fun hHeld=>?_);clear hK K;refine norm_ (a':=?_) ?_ ?_;rotate_left
       ·show Act.put _ (some 38) _=_
        simp only [Act.put,List.setIfInBounds_toArray,List.set_cons_zero,List.set_cons_succ,i64_w,i32_w]
        rfl
       refine one_ (i:=3) (N:=some 36) #[true,true,true,true,true,true,false,true,true,true,false,false] rfl rfl (one_of HT_.out (by kernel_rfl)) (by decide) (fun K hK=>?_);refine goes_ Try.func61 (by kernel_rfl) rfl #[.slice (some ad527) y530.length co22] (by rfl) rfl rfl zl ?_
       with_reducible refine (spec_l1Own.calls _ _ y530 t534 _ ?side1 ?side2 A16.out).mono ?_
       (case side1=>exact zz76)
       (case side2=>exact HC533.out)
       rintro e w28 ⟨v535,rfl,ho0,hb⟩;refine ⟨_,rfl,?_⟩;have n0_:=ak_ (Kd.R_elder' (zR HO_3.out) (Kd.R_base ho0) hb);have n1_:=ak_ (Kd.R_elder' (zR HO539.out) (Kd.R_base ho0) hb);have n2_:=ak_ (Kd.R_lower (Kd.R_new' (Kd.R_new' ho0 (Kd.R_lt (zR HO_3.out))) (Kd.R_lt (zR HO539.out))) (below_size zb));have n3_:=ak_ (Kd.C_below zz50 hb);have n4_:=ak_ (Kd.C_below zz61 hb);have n5_:=zb1 hb;clear HO_3;clear HO539;clear HR533;clear HR546;clear HB;have HO_3:=n0_;have HO539:=n1_;have HO536:=n2_;have HR533:=n3_;have HR546:=n4_;have HB:=n5_;clear n0_ n1_ n2_ n3_ n4_ n5_;refine hK.out _ _ trivial (fun hHeld=>?_);clear hK K;refine norm_ (a':=?_) ?_ ?_;rotate_left
       ·show Act.put _ (some 36) _=_
        simp only [Act.put,List.setIfInBounds_toArray,List.set_cons_zero,List.set_cons_succ,i64_w,i32_w]
        rfl
       exact norm_ zz60 (hCont (v535,v538) _ ⟨(zR (Kd.R_mono HO536.out (fun _ hk=>⟨hk.2,hk.1.2⟩))),(zR (Kd.R_mono HO539.out (fun _ hk=>⟨hk.2,hk.1.2⟩))),(zR (Kd.R_mono HO_3.out (fun _ hk=>⟨hk.2,hk.1.2⟩))),zb⟩)
     rintro ⟨v535,v538⟩ w29 ⟨h0_,h1_,h2_,h3_⟩;have n0_:Aside0 (Kd.R (Kd.int .i64) 3 w29 w.heap.size (fun k_=>some k_≠(v538:Value).ownBlock/\some k_≠(.slice (some ad527) x3_1.length co22:Value).ownBlock) v535 t534):=⟨h0_⟩;have n1_:Aside0 (Kd.R (Kd.int .i64) 3 w29 w.heap.size (fun k_=>some k_≠(v535:Value).ownBlock/\some k_≠(.slice (some ad527) x3_1.length co22:Value).ownBlock) v538 y537):=⟨h1_⟩;have n2_:Aside0 (Kd.R (Kd.int .i64) 3 w29 w.heap.size (fun k_=>some k_≠(v535:Value).ownBlock/\some k_≠(v538:Value).ownBlock) (.slice (some ad527) x3_1.length co22) x3_1):=⟨h2_⟩;have n3_:Aside0 (Below w.heap.size w w29):=⟨h3_⟩;clear HO_3;clear HB;clear h0_ h1_ h2_ h3_;have HO536:=n0_;have HO539:=n1_;have HO_3:=n2_;have HB:=n3_;clear n0_ n1_ n2_ n3_;have hHeld:=trivial;obtain ⟨Ao31,co31,eo31⟩:=Kd.R_slice HO539.out
     (subst eo31)
     refine norm_ (a':=?_) ?_ ?_;rotate_left
     ·simp only [putAll,Act.put,List.setIfInBounds_toArray,List.set_cons_zero,List.set_cons_succ]
      rfl
     refine one_ (i:=6) (N:=some 39) #[true,true,true,true,true,true,true,true,true,true,false,false] rfl rfl (one_of HT_.out (by kernel_rfl)) (by decide) (fun K hK=>?_);refine Kd.R_append_rows_step (Kd.int .i64) (w0:=w) w.heap.size (by rfl) (.tmp 36) (.tmp 38) 34 3 (.int .i64 0) 8 rfl Try.underlying34 info3 rfl (by decide) (by omega) v535 t534 y537 _ _ _ (fun k_=>some k_≠(.slice (some ad527) x3_1.length co22:Value).ownBlock/\some k_≠(.slice Ao31 y537.length co31:Value).ownBlock) (fun _=>False) rfl rfl ?aO ?aR (fun _ _ h=>h) (fun _ h=>h.elim) ?aF ?aB ?aS ?aL ?_
     (case aR=>exact zC (r2_ HO539))
     (case aB=>exact zb)
     (case aF=>exact (fun k_ hk=>⟨Kd.fresh' (Kd.R_lt (zR HO_3.out)) k_ hk,Kd.fresh' (Kd.R_lt (zR HO539.out)) k_ hk⟩))
     (case aO=>exact (zR (Kd.R_mono HO536.out (fun _ hk=>⟨hk.2,hk.1⟩))))
     (case aS=>exact (below_size zb))
     (case aL=>have:=LMc17.out;omega)
     intro v541 w30 ho hb hg hat
     rw [<-Ny540.out] at ho;replace HO_3:=ak_ (Kd.R_after (ok:=(fun k_=>some k_≠(.slice Ao31 y537.length co31:Value).ownBlock)) (zR (Kd.R_mono HO_3.out (fun _ hk=>⟨hk.2,hk.1⟩))) hg hat);replace HO539:=ak_ (Kd.R_after (ok:=(fun k_=>some k_≠(.slice (some ad527) x3_1.length co22:Value).ownBlock)) (zR (Kd.R_mono HO539.out (fun _ hk=>⟨hk.2,hk.1⟩))) hg hat);replace HB:=ak_ (hb);have HO542:=ak_ (ho);clear HO536;clear ho hb hg hat
     refine hK.out _ _ trivial (fun hHeld=>?_);clear hK K;refine norm_ (a':=?_) ?_ ?_;rotate_left
     ·show Act.put _ (some 39) _=_
      simp only [Act.put,List.setIfInBounds_toArray,List.set_cons_zero,List.set_cons_succ,i64_w,i32_w]
      rfl
     refine one_ (i:=10) (N:=some 43) #[true,true,true,true,true,true,true,true,true,true,true,false] rfl rfl (one_of HT_.out (by kernel_rfl)) (by decide) (fun K hK=>?_);refine Kd.R_append_rows_step (Kd.int .i64) (w0:=w) w.heap.size (by rfl) (.tmp 39) (.tmp 42) 34 3 (.int .i64 0) 8 rfl Try.underlying34 info3 rfl (by decide) (by omega) v541 y540 y543 _ _ _ (fun k_=>some k_≠(.slice (some ad527) x3_1.length co22:Value).ownBlock/\some k_≠(.slice Ao31 y537.length co31:Value).ownBlock) (fun _=>False) rfl rfl ?aO ?aR (fun _ _ h=>h) (fun _ h=>h.elim) ?aF ?aB ?aS ?aL ?_
     (case aR=>exact (by rw [Ny543.out,KA25.out];exact Kd.C_drop (m:=(x5_2:Int).toNat) (c:=co22) ((Kd.R_reads' (HO_3.out)).2.2) KL25.out ((Kd.R_reads' (HO_3.out)).2.1)))
     (case aB=>exact zb)
     (case aF=>exact (fun k_ hk=>⟨Kd.fresh' (Kd.R_lt (zR HO_3.out)) k_ hk,Kd.fresh' (Kd.R_lt (zR HO539.out)) k_ hk⟩))
     (case aO=>exact (zR HO542.out))
     (case aS=>exact (below_size zb))
     (case aL=>have:=LMc20.out;omega)
     intro v548 w32 ho hb hg hat
     rw [<-Ny547.out] at ho;replace HO_3:=ak_ (Kd.R_after (ok:=(fun k_=>some k_≠(.slice Ao31 y537.length co31:Value).ownBlock)) (zR HO_3.out) hg hat);replace HO539:=ak_ (Kd.R_after (ok:=(fun k_=>some k_≠(.slice (some ad527) x3_1.length co22:Value).ownBlock)) (zR HO539.out) hg hat);replace HB:=ak_ (hb);have HO549:=ak_ (ho);clear HO542;clear ho hb hg hat
     refine hK.out _ _ trivial (fun hHeld=>?_);clear hK K;refine norm_ (a':=?_) ?_ ?_;rotate_left
     ·show Act.put _ (some 43) _=_
      simp only [Act.put,List.setIfInBounds_toArray,List.set_cons_zero,List.set_cons_succ,i64_w,i32_w]
      rfl
     refine pu_ 11 3 ?_;refine done_ (done_of HT_.out (by kernel_rfl)) ?_
     try go_wp2
     go_roundg k2
     case measure=>have:=HK1.out;have:=HK2.out;omega
     case rel=>exact ⟨(y547),(wrap64 (x4_1 + 1)),zo,H',⟨zz5⟩,⟨zR (Kd.R_mono HO549.out (fun _ hk=>trivial))⟩,⟨zb⟩⟩
