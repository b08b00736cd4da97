-- Words and walks of this claim.
import Derived.Test.YtkolecmpncaooaaXFnLongestFirstx0
namespace Go.Proofs.Ytkolecmpncaooaa.XFnLongestFirst
open Go.RowKit Go.Proofs.YtkolecmpncaooaaW.PrintWords Go.Proofs.YtkolecmpncaooaaW.PrintLast Go.Proofs.YtkolecmpncaooaaW.PrintMore
attribute [local go_sem] max2_int min2_int max_two min_two max_three min_three max_four min_four
attribute [local go_sem] idxA_51_0 idxA_51_1 fldS_45_0 fldS_45_1 fldS_45_2 fldS_96_0 fldS_96_1 fldS_96_2
set_option linter.unusedVariables false
set_option linter.unusedSimpArgs false
def spec_l3Gap.f (l0:List (S31)) (a1:Int) (a2:Int) (a3:Int):Option (Int):=if 0<=a2 then (if a2<(l0.length:Int) then (if 0<=a3 then (if a3<(l0.length:Int) then (if a1=1 then (some (wrap64 (((rd_T31 l0 a2).f2) - ((rd_T31 l0 a3).f2)))) else (if a1=2 then (some (wrap64 (((rd_T31 l0 a2).f0) - ((rd_T31 l0 a3).f0)))) else (if a1=3 then (some (wrap64 ((wrap64 (((rd_T31 l0 a2).f0) * ((rd_T31 l0 a3).f1))) - (wrap64 (((rd_T31 l0 a3).f0) * ((rd_T31 l0 a2).f1)))))) else (some (wrap64 (((rd_T31 l0 a2).f3) - ((rd_T31 l0 a3).f3))))))) else (none)) else (none)) else (none)) else (none)
def spec_l3Gap.T1:Bool × List (List Nat × List Nat):=(true,[([],[]),([],[]),([0,1],[0,1]),([2],[2]),([],[]),([],[]),([4,5],[4,5]),([6],[6]),([],[]),([],[]),([8,3,0,1,2,3,8,9],[3,8]),([9,7,10,0,1,2,3,4,5,6,7,8,9,10],[7,9])])
def spec_l3Gap.B1:List Nat:=[0,0,3,7,0,0,48,112,0,0,783,2047]
theorem spec_l3Gap.tab1:rtab .any (opsOf Try.f88 1)=spec_l3Gap.T1:=by kernel_rfl
theorem spec_l3Gap.bits1:waitsOk spec_l3Gap.T1.2 spec_l3Gap.B1=true:=by kernel_rfl
set_option maxHeartbeats 8000000 in
set_option maxRecDepth 100000 in
theorem spec_l3Gap.calls (A0:Option Addr) (c0:Nat) (l0:List (S31)) (a1:Int) (a2:Int) (a3:Int) (r:Int) (w:World) (hr0:Kd.C k31 w A0 l0.length l0) (hc0:l0.length<=c0) (h:spec_l3Gap.f l0 a1 a2 a3=some r) :
  Calls Try.prog 88 #[.slice A0 l0.length c0,.int .i64 a1,.int .i64 a2,.int .i64 a3] w fun e w'=>e=.returned (.int .i64 r)/\Below w.heap.size w w':=by
 have hu31:=Try.underlying31
 have HR0:=ak_ hr0
 have HC0:=ak_ hc0
 clear hr0 hc0
 have HB:=ak_ (Below.refl w.heap.size w)
 have H:(if 0<=a2 then (if a2<(l0.length:Int) then (if 0<=a3 then (if a3<(l0.length:Int) then (if a1=1 then (some (wrap64 (((rd_T31 l0 a2).f2) - ((rd_T31 l0 a3).f2)))) else (if a1=2 then (some (wrap64 (((rd_T31 l0 a2).f0) - ((rd_T31 l0 a3).f0)))) else (if a1=3 then (some (wrap64 ((wrap64 (((rd_T31 l0 a2).f0) * ((rd_T31 l0 a3).f1))) - (wrap64 (((rd_T31 l0 a3).f0) * ((rd_T31 l0 a2).f1)))))) else (some (wrap64 (((rd_T31 l0 a2).f3) - ((rd_T31 l0 a3).f3))))))) else (none)) else (none)) else (none)) else (none))=some r:=h
 clear h
 replace H:=gD H;obtain ⟨c5b0,H⟩:=H
 replace H:=gD H;obtain ⟨c6b0,H⟩:=H
 replace H:=gD H;obtain ⟨c7b0,H⟩:=H
 replace H:=gD H;obtain ⟨c8b0,H⟩:=H
 replace H:=gP H;rcases H with ⟨c9,H⟩ | ⟨c9,H⟩
 ·have c9b0:(a1 == 1)=true:=beq_iff_eq.mpr c9
  have c9b1:(a1 != 1)=false:=bne_eq_false_iff_eq.mpr c9
  clear c9
  obtain rfl:=oi_ H
  go_enter Try.func88,Try.ntmps88
  try go_wp2
  replace HB:=ak_ (below_drew1 HB.out)
  have p556:0<=(a2:Int):=oz_
  have q556:a2<(l0.length:Int):=oz_
  obtain ⟨ad556,e556,hx556_0,hx556_1,hx556_2,hx556_3⟩:=at_T31 HR0.out a2 p556 q556
  have hw556_3:=hx556_3
  have hw556_2:=hx556_2
  have hw556_1:=hx556_1
  have hw556_0:=hx556_0
  cases e556
  replace hx556_0:=zh_ HB hx556_0
  replace hx556_1:=zh_ HB hx556_1
  replace hx556_2:=zh_ HB hx556_2
  replace hx556_3:=zh_ HB hx556_3
  replace p556:=eq_true p556
  replace q556:=eq_true q556
  have p557:0<=(a3:Int):=oz_
  have q557:a3<(l0.length:Int):=oz_
  obtain ⟨ad557,e557,hx557_0,hx557_1,hx557_2,hx557_3⟩:=at_T31 HR0.out a3 p557 q557
  have hw557_3:=hx557_3
  have hw557_2:=hx557_2
  have hw557_1:=hx557_1
  have hw557_0:=hx557_0
  obtain rfl:ad556=ad557:=(by injection e557)
  replace hx557_0:=zh_ HB hx557_0
  replace hx557_1:=zh_ HB hx557_1
  replace hx557_2:=zh_ HB hx557_2
  replace hx557_3:=zh_ HB hx557_3
  replace p557:=eq_true p557
  replace q557:=eq_true q557
  refine start_ (n:=12) (S:=fun w'=>w'.cell? (ad556.add ((a2).toNat * 4))=some (.int .i64 ((rd_T31 l0 a2).f0))/\w'.cell? ⟨(ad556.add ((a2).toNat * 4)).block,(ad556.add ((a2).toNat * 4)).off + 1,none⟩=some (.int .i64 ((rd_T31 l0 a2).f1))/\w'.cell? ⟨(ad556.add ((a2).toNat * 4)).block,(ad556.add ((a2).toNat * 4)).off + 2,none⟩=some (.int .i64 ((rd_T31 l0 a2).f2))/\w'.cell? ⟨(ad556.add ((a2).toNat * 4)).block,(ad556.add ((a2).toNat * 4)).off + 3,none⟩=some (.int .i64 ((rd_T31 l0 a2).f3))/\w'.cell? (ad556.add ((a3).toNat * 4))=some (.int .i64 ((rd_T31 l0 a3).f0))/\w'.cell? ⟨(ad556.add ((a3).toNat * 4)).block,(ad556.add ((a3).toNat * 4)).off + 1,none⟩=some (.int .i64 ((rd_T31 l0 a3).f1))/\w'.cell? ⟨(ad556.add ((a3).toNat * 4)).block,(ad556.add ((a3).toNat * 4)).off + 2,none⟩=some (.int .i64 ((rd_T31 l0 a3).f2))/\w'.cell? ⟨(ad556.add ((a3).toNat * 4)).block,(ad556.add ((a3).toNat * 4)).off + 3,none⟩=some (.int .i64 ((rd_T31 l0 a3).f3))) (ds:=[]) #[false,false,false,false,false,false,false,false,false,false,false,false] (by kernel_rfl) rfl rfl ⟨(zq_ HB hw556_0),(zq_ HB hw556_1),(zq_ HB hw556_2),(zq_ HB hw556_3),(zq_ HB hw557_0),(zq_ HB hw557_1),(zq_ HB hw557_2),(zq_ HB hw557_3)⟩ (fun hHeld=>?_);refine with_tabW spec_l3Gap.tab1 spec_l3Gap.bits1 (fun HT_ HW_=>?_)
  generalize w.drew=w10 at HB hx556_0 hx556_1 hx556_2 hx556_3 hx557_0 hx557_1 hx557_2 hx557_3 hHeld ⊢
  refine pu_ 0 11 ?_
  refine pu_ 1 12 ?_
  refine pu_ 2 13 ?_
  refine pu_ 4 15 ?_
  refine pu_ 5 16 ?_
  refine pu_ 6 17 ?_
  refine tk_ 3 14 hHeld ?_
  refine tk_ 7 18 hHeld ?_
  refine join_ (σ:=Nat × Nat) 2 #[true,true,true,true,true,true,true,true,true,true,false,false] (fun s_=>[(9,.pointer (some ⟨s_.1,0,none⟩)),(10,.pointer (some ⟨s_.2,0,none⟩))]) (fun s_ w'=>(w'.cell? (ad556.add ((a2).toNat * 4))=some (.int .i64 ((rd_T31 l0 a2).f0))/\w'.cell? ⟨(ad556.add ((a2).toNat * 4)).block,(ad556.add ((a2).toNat * 4)).off + 1,none⟩=some (.int .i64 ((rd_T31 l0 a2).f1))/\w'.cell? ⟨(ad556.add ((a2).toNat * 4)).block,(ad556.add ((a2).toNat * 4)).off + 2,none⟩=some (.int .i64 ((rd_T31 l0 a2).f2))/\w'.cell? ⟨(ad556.add ((a2).toNat * 4)).block,(ad556.add ((a2).toNat * 4)).off + 3,none⟩=some (.int .i64 ((rd_T31 l0 a2).f3))/\w'.cell? (ad556.add ((a3).toNat * 4))=some (.int .i64 ((rd_T31 l0 a3).f0))/\w'.cell? ⟨(ad556.add ((a3).toNat * 4)).block,(ad556.add ((a3).toNat * 4)).off + 1,none⟩=some (.int .i64 ((rd_T31 l0 a3).f1))/\w'.cell? ⟨(ad556.add ((a3).toNat * 4)).block,(ad556.add ((a3).toNat * 4)).off + 2,none⟩=some (.int .i64 ((rd_T31 l0 a3).f2))/\w'.cell? ⟨(ad556.add ((a3).toNat * 4)).block,(ad556.add ((a3).toNat * 4)).off + 3,none⟩=some (.int .i64 ((rd_T31 l0 a3).f3)))/\(w'.heap[s_.1]?=some (.cells #[.int .i64 0,.int .i64 0,.int .i64 0,.int .i64 0] 31 (0,0)))/\(w'.heap[s_.2]?=some (.cells #[.int .i64 0,.int .i64 0,.int .i64 0,.int .i64 0] 31 (0,0)))/\(w.heap.size<=s_.1)/\(w.heap.size<=s_.1)/\(s_.2≠s_.1)/\(s_.1≠s_.2)/\(w.heap.size<=s_.2)/\(w.heap.size<=s_.2)/\(Below w.heap.size w w')) ?_ ?_
  rotate_left
  ·intro hCont
   refine two_ (i:=8) (j:=9) (Ni:=some 9) (Nj:=some 10) #[true,true,true,true,true,true,true,true,true,false,false,false] #[true,true,true,true,true,true,true,true,false,true,false,false] rfl rfl rfl rfl (two_of HT_.out (by kernel_rfl)) (by decide) (by decide) (fun K hK=>?_) (fun K hK=>?_)
   ·skip
    refine box_step ?hg (N:=9) ?hd (cs:=#[.int .i64 0,.int .i64 0,.int .i64 0,.int .i64 0]) (t:=31) ?hr ?_;(case hd=>rfl);(case hg=>rfl);(case hr=>(go_simp;done))
    intro gb558 hg w11 hbox hb
    have n0_:=zb1 hb
    have n1_:=ak_ (hbox)
    have n2_:=ak_ ((by rw [hg];exact (below_size zb):w.heap.size<=gb558))
    have n3_:=ak_ ((by rw [hg];exact (below_size zb):w.heap.size<=gb558))
    clear HB
    have HB:=n0_
    have BK558:=n1_
    have GW558:=n2_
    have GE558:=n3_
    clear n0_ n1_ n2_ n3_
    clear hb hbox hg
    refine hK.out _ _ ⟨(zq_ HB hw556_0),(zq_ HB hw556_1),(zq_ HB hw556_2),(zq_ HB hw556_3),(zq_ HB hw557_0),(zq_ HB hw557_1),(zq_ HB hw557_2),(zq_ HB hw557_3)⟩ (fun hHeld=>?_)
    clear hK K
    refine norm_ (a':=?_) ?_ ?_
    rotate_left
    ·show Act.put _ (some 9) _=_
     simp only [Act.put,List.setIfInBounds_toArray,List.set_cons_zero,List.set_cons_succ,i64_w,i32_w]
     rfl
    refine one_ (i:=9) (N:=some 10) #[true,true,true,true,true,true,true,true,true,true,false,false] rfl rfl (one_of HT_.out (by kernel_rfl)) (by decide) (fun K hK=>?_)
    refine box_step ?hg (N:=10) ?hd (cs:=#[.int .i64 0,.int .i64 0,.int .i64 0,.int .i64 0]) (t:=31) ?hr ?_;(case hd=>rfl);(case hg=>rfl);(case hr=>(go_simp;done))
    intro gb559 hg w12 hbox hb
    have n0_:=ak_ (blk_below (g:=gb558) (o:=.cells #[.int .i64 0,.int .i64 0,.int .i64 0,.int .i64 0] 31 (0,0)) zz10 hb)
    have n1_:=ak_ (below_step zz43 hb)
    have n2_:=ak_ (hbox)
    have n3_:=ak_ ((by rw [hg];exact (below_size zz43):w.heap.size<=gb559))
    have n4_:=ak_ ((by rw [hg];exact (below_size zz43):w.heap.size<=gb559))
    have n5_:=ak_ ((by rw [hg];exact Nat.ne_of_lt (blk_lt (g:=gb558) (o:=.cells #[.int .i64 0,.int .i64 0,.int .i64 0,.int .i64 0] 31 (0,0)) zz10):gb558≠gb559))
    have n6_:=ak_ ((by rw [hg];exact Nat.ne_of_gt (blk_lt (g:=gb558) (o:=.cells #[.int .i64 0,.int .i64 0,.int .i64 0,.int .i64 0] 31 (0,0)) zz10):gb559≠gb558))
    clear BK558
    clear HB
    have BK558:=n0_
    have HB:=n1_
    have BK559:=n2_
    have GW559:=n3_
    have GE559:=n4_
    have NB558_559:=n5_
    have NB559_558:=n6_
    clear n0_ n1_ n2_ n3_ n4_ n5_ n6_
    clear hb hbox hg
    refine hK.out _ _ ⟨(zq_ HB hw556_0),(zq_ HB hw556_1),(zq_ HB hw556_2),(zq_ HB hw556_3),(zq_ HB hw557_0),(zq_ HB hw557_1),(zq_ HB hw557_2),(zq_ HB hw557_3)⟩ (fun hHeld=>?_)
    clear hK K
    refine norm_ (a':=?_) ?_ ?_
    rotate_left
    ·show Act.put _ (some 10) _=_
     simp only [Act.put,List.setIfInBounds_toArray,List.set_cons_zero,List.set_cons_succ,i64_w,i32_w]
     rfl
    exact norm_ zz12 (hCont (gb558,gb559) _ ⟨hHeld,zz10,zz11,GW558.out,GE558.out,NB559_558.out,NB558_559.out,GW559.out,GE559.out,zz62⟩)
   ·skip
    refine box_step ?hg (N:=10) ?hd (cs:=#[.int .i64 0,.int .i64 0,.int .i64 0,.int .i64 0]) (t:=31) ?hr ?_;(case hd=>rfl);(case hg=>rfl);(case hr=>(go_simp;done))
    intro gb559 hg w11 hbox hb
    have n0_:=zb1 hb
    have n1_:=ak_ (hbox)
    have n2_:=ak_ ((by rw [hg];exact (below_size zb):w.heap.size<=gb559))
    have n3_:=ak_ ((by rw [hg];exact (below_size zb):w.heap.size<=gb559))
    clear HB
    have HB:=n0_
    have BK559:=n1_
    have GW559:=n2_
    have GE559:=n3_
    clear n0_ n1_ n2_ n3_
    clear hb hbox hg
    refine hK.out _ _ ⟨(zq_ HB hw556_0),(zq_ HB hw556_1),(zq_ HB hw556_2),(zq_ HB hw556_3),(zq_ HB hw557_0),(zq_ HB hw557_1),(zq_ HB hw557_2),(zq_ HB hw557_3)⟩ (fun hHeld=>?_)
    clear hK K
    refine norm_ (a':=?_) ?_ ?_
    rotate_left
    ·show Act.put _ (some 10) _=_
     simp only [Act.put,List.setIfInBounds_toArray,List.set_cons_zero,List.set_cons_succ,i64_w,i32_w]
     rfl
    refine one_ (i:=8) (N:=some 9) #[true,true,true,true,true,true,true,true,true,true,false,false] rfl rfl (one_of HT_.out (by kernel_rfl)) (by decide) (fun K hK=>?_)
    refine box_step ?hg (N:=9) ?hd (cs:=#[.int .i64 0,.int .i64 0,.int .i64 0,.int .i64 0]) (t:=31) ?hr ?_;(case hd=>rfl);(case hg=>rfl);(case hr=>(go_simp;done))
    intro gb558 hg w12 hbox hb
    have n0_:=ak_ (blk_below (g:=gb559) (o:=.cells #[.int .i64 0,.int .i64 0,.int .i64 0,.int .i64 0] 31 (0,0)) zz11 hb)
    have n1_:=ak_ (below_step zz44 hb)
    have n2_:=ak_ (hbox)
    have n3_:=ak_ ((by rw [hg];exact (below_size zz44):w.heap.size<=gb558))
    have n4_:=ak_ ((by rw [hg];exact (below_size zz44):w.heap.size<=gb558))
    have n5_:=ak_ ((by rw [hg];exact Nat.ne_of_lt (blk_lt (g:=gb559) (o:=.cells #[.int .i64 0,.int .i64 0,.int .i64 0,.int .i64 0] 31 (0,0)) zz11):gb559≠gb558))
    have n6_:=ak_ ((by rw [hg];exact Nat.ne_of_gt (blk_lt (g:=gb559) (o:=.cells #[.int .i64 0,.int .i64 0,.int .i64 0,.int .i64 0] 31 (0,0)) zz11):gb558≠gb559))
    clear BK559
    clear HB
    have BK559:=n0_
    have HB:=n1_
    have BK558:=n2_
    have GW558:=n3_
    have GE558:=n4_
    have NB559_558:=n5_
    have NB558_559:=n6_
    clear n0_ n1_ n2_ n3_ n4_ n5_ n6_
    clear hb hbox hg
    refine hK.out _ _ ⟨(zq_ HB hw556_0),(zq_ HB hw556_1),(zq_ HB hw556_2),(zq_ HB hw556_3),(zq_ HB hw557_0),(zq_ HB hw557_1),(zq_ HB hw557_2),(zq_ HB hw557_3)⟩ (fun hHeld=>?_)
    clear hK K
    refine norm_ (a':=?_) ?_ ?_
    rotate_left
    ·show Act.put _ (some 9) _=_
     simp only [Act.put,List.setIfInBounds_toArray,List.set_cons_zero,List.set_cons_succ,i64_w,i32_w]
     rfl
    exact norm_ zz12 (hCont (gb558,gb559) _ ⟨hHeld,zz10,zz11,GW558.out,GE558.out,NB559_558.out,NB558_559.out,GW559.out,GE559.out,zz79⟩)
  rintro ⟨gb558,gb559⟩ w13 ⟨hS_,h0_,h1_,h2_,h3_,h4_,h5_,h6_,h7_,h8_⟩
  have n0_:Aside0 (w13.heap[gb558]?=some (.cells #[.int .i64 0,.int .i64 0,.int .i64 0,.int .i64 0] 31 (0,0))):=⟨h0_⟩
  have n1_:Aside0 (w13.heap[gb559]?=some (.cells #[.int .i64 0,.int .i64 0,.int .i64 0,.int .i64 0] 31 (0,0))):=⟨h1_⟩
  have n2_:Aside0 (w.heap.size<=gb558):=⟨h2_⟩
  have n3_:Aside0 (w.heap.size<=gb558):=⟨h3_⟩
  have n4_:Aside0 (gb559≠gb558):=⟨h4_⟩
  have n5_:Aside0 (gb558≠gb559):=⟨h5_⟩
  have n6_:Aside0 (w.heap.size<=gb559):=⟨h6_⟩
  have n7_:Aside0 (w.heap.size<=gb559):=⟨h7_⟩
  have n8_:Aside0 (Below w.heap.size w w13):=⟨h8_⟩
  clear HB
  clear h0_ h1_ h2_ h3_ h4_ h5_ h6_ h7_ h8_
  have BK558:=n0_
  have BK559:=n1_
  have GW558:=n2_
  have GE558:=n3_
  have NB559_558:=n4_
  have NB558_559:=n5_
  have GW559:=n6_
  have GE559:=n7_
  have HB:=n8_
  clear n0_ n1_ n2_ n3_ n4_ n5_ n6_ n7_ n8_
  have hHeld:w13.cell? (ad556.add ((a2).toNat * 4))=some (.int .i64 ((rd_T31 l0 a2).f0))/\w13.cell? ⟨(ad556.add ((a2).toNat * 4)).block,(ad556.add ((a2).toNat * 4)).off + 1,none⟩=some (.int .i64 ((rd_T31 l0 a2).f1))/\w13.cell? ⟨(ad556.add ((a2).toNat * 4)).block,(ad556.add ((a2).toNat * 4)).off + 2,none⟩=some (.int .i64 ((rd_T31 l0 a2).f2))/\w13.cell? ⟨(ad556.add ((a2).toNat * 4)).block,(ad556.add ((a2).toNat * 4)).off + 3,none⟩=some (.int .i64 ((rd_T31 l0 a2).f3))/\w13.cell? (ad556.add ((a3).toNat * 4))=some (.int .i64 ((rd_T31 l0 a3).f0))/\w13.cell? ⟨(ad556.add ((a3).toNat * 4)).block,(ad556.add ((a3).toNat * 4)).off + 1,none⟩=some (.int .i64 ((rd_T31 l0 a3).f1))/\w13.cell? ⟨(ad556.add ((a3).toNat * 4)).block,(ad556.add ((a3).toNat * 4)).off + 2,none⟩=some (.int .i64 ((rd_T31 l0 a3).f2))/\w13.cell? ⟨(ad556.add ((a3).toNat * 4)).block,(ad556.add ((a3).toNat * 4)).off + 3,none⟩=some (.int .i64 ((rd_T31 l0 a3).f3)):=hS_
  refine norm_ (a':=?_) ?_ ?_
  rotate_left
  ·simp only [putAll,Act.put,List.setIfInBounds_toArray,List.set_cons_zero,List.set_cons_succ]
   rfl
  refine one_ (i:=10) (N:=none) #[true,true,true,true,true,true,true,true,true,true,true,false] rfl rfl (one_of HT_.out (by kernel_rfl)) (by decide) (fun K hK=>?_)
  have hs14:w13.cell? ⟨gb558,0,none⟩=some (.int .i64 0):=(blk_cell BK558.out 0).trans rfl
  have hfs14:=blk_frozen BK558.out 0
  have hns14_1:=NB559_558.out
  have hms14_1:=NB558_559.out
  have hs15:w13.cell? ⟨gb558,1,none⟩=some (.int .i64 0):=(blk_cell BK558.out 1).trans rfl
  have hfs15:=blk_frozen BK558.out 1
  have hns15_1:=NB559_558.out
  have hms15_1:=NB558_559.out
  have hs16:w13.cell? ⟨gb558,2,none⟩=some (.int .i64 0):=(blk_cell BK558.out 2).trans rfl
  have hfs16:=blk_frozen BK558.out 2
  have hns16_1:=NB559_558.out
  have hms16_1:=NB558_559.out
  have hs17:w13.cell? ⟨gb558,3,none⟩=some (.int .i64 0):=(blk_cell BK558.out 3).trans rfl
  have hfs17:=blk_frozen BK558.out 3
  have hns17_1:=NB559_558.out
  have hms17_1:=NB558_559.out
  refine skip_ (w1:=?_) (by rfl) rfl ?_ ?_
  rotate_left
  ·go_simp
   rfl
  refine hK.out _ _ ⟨((cell_far (p:=⟨gb558,_,none⟩) zz16 _).trans (((cell_far (p:=⟨gb558,_,none⟩) zz16 _).trans (((cell_far (p:=⟨gb558,_,none⟩) zz16 _).trans (((cell_far (p:=⟨gb558,_,none⟩) zz16 _).trans (hHeld.1)))))))),((cell_far (p:=⟨gb558,_,none⟩) zz17 _).trans (((cell_far (p:=⟨gb558,_,none⟩) zz17 _).trans (((cell_far (p:=⟨gb558,_,none⟩) zz17 _).trans (((cell_far (p:=⟨gb558,_,none⟩) zz17 _).trans (hHeld.2.1)))))))),((cell_far (p:=⟨gb558,_,none⟩) zz18 _).trans (((cell_far (p:=⟨gb558,_,none⟩) zz18 _).trans (((cell_far (p:=⟨gb558,_,none⟩) zz18 _).trans (((cell_far (p:=⟨gb558,_,none⟩) zz18 _).trans (hHeld.2.2.1)))))))),((cell_far (p:=⟨gb558,_,none⟩) zz19 _).trans (((cell_far (p:=⟨gb558,_,none⟩) zz19 _).trans (((cell_far (p:=⟨gb558,_,none⟩) zz19 _).trans (((cell_far (p:=⟨gb558,_,none⟩) zz19 _).trans (hHeld.2.2.2.1)))))))),((cell_far (p:=⟨gb558,_,none⟩) zz20 _).trans (((cell_far (p:=⟨gb558,_,none⟩) zz20 _).trans (((cell_far (p:=⟨gb558,_,none⟩) zz20 _).trans (((cell_far (p:=⟨gb558,_,none⟩) zz20 _).trans (hHeld.2.2.2.2.1)))))))),((cell_far (p:=⟨gb558,_,none⟩) zz21 _).trans (((cell_far (p:=⟨gb558,_,none⟩) zz21 _).trans (((cell_far (p:=⟨gb558,_,none⟩) zz21 _).trans (((cell_far (p:=⟨gb558,_,none⟩) zz21 _).trans (hHeld.2.2.2.2.2.1)))))))),((cell_far (p:=⟨gb558,_,none⟩) zz22 _).trans (((cell_far (p:=⟨gb558,_,none⟩) zz22 _).trans (((cell_far (p:=⟨gb558,_,none⟩) zz22 _).trans (((cell_far (p:=⟨gb558,_,none⟩) zz22 _).trans (hHeld.2.2.2.2.2.2.1)))))))),((cell_far (p:=⟨gb558,_,none⟩) zz23 _).trans (((cell_far (p:=⟨gb558,_,none⟩) zz23 _).trans (((cell_far (p:=⟨gb558,_,none⟩) zz23 _).trans (((cell_far (p:=⟨gb558,_,none⟩) zz23 _).trans (hHeld.2.2.2.2.2.2.2))))))))⟩ (fun hHeld=>?_)
  clear hK K
  refine one_ (i:=11) (N:=none) #[true,true,true,true,true,true,true,true,true,true,true,true] rfl rfl (one_of HT_.out (by kernel_rfl)) (by decide) (fun K hK=>?_)
  have hs18:w13.cell? ⟨gb559,0,none⟩=some (.int .i64 0):=(blk_cell BK559.out 0).trans rfl
  have hfs18:=blk_frozen BK559.out 0
  have hns18_0:=NB558_559.out
  have hms18_0:=NB559_558.out
  have hs19:w13.cell? ⟨gb559,1,none⟩=some (.int .i64 0):=(blk_cell BK559.out 1).trans rfl
  have hfs19:=blk_frozen BK559.out 1
  have hns19_0:=NB558_559.out
  have hms19_0:=NB559_558.out
  have hs20:w13.cell? ⟨gb559,2,none⟩=some (.int .i64 0):=(blk_cell BK559.out 2).trans rfl
  have hfs20:=blk_frozen BK559.out 2
  have hns20_0:=NB558_559.out
  have hms20_0:=NB559_558.out
  have hs21:w13.cell? ⟨gb559,3,none⟩=some (.int .i64 0):=(blk_cell BK559.out 3).trans rfl
  have hfs21:=blk_frozen BK559.out 3
  have hns21_0:=NB558_559.out
  have hms21_0:=NB559_558.out
  refine skip_ (w1:=?_) (by rfl) rfl ?_ ?_
  rotate_left
  ·go_simp
   rfl
  refine hK.out _ _ ⟨((cell_far (p:=⟨gb559,_,none⟩) zz24 _).trans (((cell_far (p:=⟨gb559,_,none⟩) zz24 _).trans (((cell_far (p:=⟨gb559,_,none⟩) zz24 _).trans (((cell_far (p:=⟨gb559,_,none⟩) zz24 _).trans (hHeld.1)))))))),((cell_far (p:=⟨gb559,_,none⟩) zz25 _).trans (((cell_far (p:=⟨gb559,_,none⟩) zz25 _).trans (((cell_far (p:=⟨gb559,_,none⟩) zz25 _).trans (((cell_far (p:=⟨gb559,_,none⟩) zz25 _).trans (hHeld.2.1)))))))),((cell_far (p:=⟨gb559,_,none⟩) zz26 _).trans (((cell_far (p:=⟨gb559,_,none⟩) zz26 _).trans (((cell_far (p:=⟨gb559,_,none⟩) zz26 _).trans (((cell_far (p:=⟨gb559,_,none⟩) zz26 _).trans (hHeld.2.2.1)))))))),((cell_far (p:=⟨gb559,_,none⟩) zz27 _).trans (((cell_far (p:=⟨gb559,_,none⟩) zz27 _).trans (((cell_far (p:=⟨gb559,_,none⟩) zz27 _).trans (((cell_far (p:=⟨gb559,_,none⟩) zz27 _).trans (hHeld.2.2.2.1)))))))),((cell_far (p:=⟨gb559,_,none⟩) zz28 _).trans (((cell_far (p:=⟨gb559,_,none⟩) zz28 _).trans (((cell_far (p:=⟨gb559,_,none⟩) zz28 _).trans (((cell_far (p:=⟨gb559,_,none⟩) zz28 _).trans (hHeld.2.2.2.2.1)))))))),((cell_far (p:=⟨gb559,_,none⟩) zz29 _).trans (((cell_far (p:=⟨gb559,_,none⟩) zz29 _).trans (((cell_far (p:=⟨gb559,_,none⟩) zz29 _).trans (((cell_far (p:=⟨gb559,_,none⟩) zz29 _).trans (hHeld.2.2.2.2.2.1)))))))),((cell_far (p:=⟨gb559,_,none⟩) zz30 _).trans (((cell_far (p:=⟨gb559,_,none⟩) zz30 _).trans (((cell_far (p:=⟨gb559,_,none⟩) zz30 _).trans (((cell_far (p:=⟨gb559,_,none⟩) zz30 _).trans (hHeld.2.2.2.2.2.2.1)))))))),((cell_far (p:=⟨gb559,_,none⟩) zz31 _).trans (((cell_far (p:=⟨gb559,_,none⟩) zz31 _).trans (((cell_far (p:=⟨gb559,_,none⟩) zz31 _).trans (((cell_far (p:=⟨gb559,_,none⟩) zz31 _).trans (hHeld.2.2.2.2.2.2.2))))))))⟩ (fun hHeld=>?_)
  clear hK K
  refine done_ (done_of HT_.out (by kernel_rfl)) ?_
  have hnb22:=NB558_559.out
  have hnc22:=NB559_558.out
  obtain ⟨hcz23_0,hcz23_1,hcz23_2,hcz23_3,hfz23_0,hfz23_1,hfz23_2,hfz23_3⟩:=zk4 BK558.out
  obtain ⟨hcz24_0,hcz24_1,hcz24_2,hcz24_3,hfz24_0,hfz24_1,hfz24_2,hfz24_3⟩:=zk4 BK559.out
  try go_wp2
  go_ret
  exact ⟨zz0,zz62⟩
 have c9b0:(a1 == 1)=false:=beq_eq_false_iff_ne.mpr c9
 have c9b1:(a1 != 1)=true:=bne_iff_ne.mpr c9
 replace H:=gP H;rcases H with ⟨c25,H⟩ | ⟨c25,H⟩
 ·have c25b0:(a1 == 2)=true:=beq_iff_eq.mpr c25
  have c25b1:(a1 != 2)=false:=bne_eq_false_iff_eq.mpr c25
  clear c25
  obtain rfl:=oi_ H
  go_enter Try.func88,Try.ntmps88
  try go_wp2
  replace HB:=ak_ (below_drew1 HB.out)
  have p556:0<=(a2:Int):=oz_
  have q556:a2<(l0.length:Int):=oz_
  obtain ⟨ad556,e556,hx556_0,hx556_1,hx556_2,hx556_3⟩:=at_T31 HR0.out a2 p556 q556
  have hw556_3:=hx556_3
  have hw556_2:=hx556_2
  have hw556_1:=hx556_1
  have hw556_0:=hx556_0
  cases e556
  replace hx556_0:=zh_ HB hx556_0
  replace hx556_1:=zh_ HB hx556_1
  replace hx556_2:=zh_ HB hx556_2
  replace hx556_3:=zh_ HB hx556_3
  replace p556:=eq_true p556
  replace q556:=eq_true q556
  have p557:0<=(a3:Int):=oz_
  have q557:a3<(l0.length:Int):=oz_
  obtain ⟨ad557,e557,hx557_0,hx557_1,hx557_2,hx557_3⟩:=at_T31 HR0.out a3 p557 q557
  have hw557_3:=hx557_3
  have hw557_2:=hx557_2
  have hw557_1:=hx557_1
  have hw557_0:=hx557_0
  obtain rfl:ad556=ad557:=(by injection e557)
  replace hx557_0:=zh_ HB hx557_0
  replace hx557_1:=zh_ HB hx557_1
  replace hx557_2:=zh_ HB hx557_2
  replace hx557_3:=zh_ HB hx557_3
  replace p557:=eq_true p557
  replace q557:=eq_true q557
  refine start_ (n:=12) (S:=fun w'=>w'.cell? (ad556.add ((a2).toNat * 4))=some (.int .i64 ((rd_T31 l0 a2).f0))/\w'.cell? ⟨(ad556.add ((a2).toNat * 4)).block,(ad556.add ((a2).toNat * 4)).off + 1,none⟩=some (.int .i64 ((rd_T31 l0 a2).f1))/\w'.cell? ⟨(ad556.add ((a2).toNat * 4)).block,(ad556.add ((a2).toNat * 4)).off + 2,none⟩=some (.int .i64 ((rd_T31 l0 a2).f2))/\w'.cell? ⟨(ad556.add ((a2).toNat * 4)).block,(ad556.add ((a2).toNat * 4)).off + 3,none⟩=some (.int .i64 ((rd_T31 l0 a2).f3))/\w'.cell? (ad556.add ((a3).toNat * 4))=some (.int .i64 ((rd_T31 l0 a3).f0))/\w'.cell? ⟨(ad556.add ((a3).toNat * 4)).block,(ad556.add ((a3).toNat * 4)).off + 1,none⟩=some (.int .i64 ((rd_T31 l0 a3).f1))/\w'.cell? ⟨(ad556.add ((a3).toNat * 4)).block,(ad556.add ((a3).toNat * 4)).off + 2,none⟩=some (.int .i64 ((rd_T31 l0 a3).f2))/\w'.cell? ⟨(ad556.add ((a3).toNat * 4)).block,(ad556.add ((a3).toNat * 4)).off + 3,none⟩=some (.int .i64 ((rd_T31 l0 a3).f3))) (ds:=[]) #[false,false,false,false,false,false,false,false,false,false,false,false] (by kernel_rfl) rfl rfl ⟨(zq_ HB hw556_0),(zq_ HB hw556_1),(zq_ HB hw556_2),(zq_ HB hw556_3),(zq_ HB hw557_0),(zq_ HB hw557_1),(zq_ HB hw557_2),(zq_ HB hw557_3)⟩ (fun hHeld=>?_);refine with_tabW spec_l3Gap.tab1 spec_l3Gap.bits1 (fun HT_ HW_=>?_)
  generalize w.drew=w26 at HB hx556_0 hx556_1 hx556_2 hx556_3 hx557_0 hx557_1 hx557_2 hx557_3 hHeld ⊢
  refine pu_ 0 11 ?_
  refine pu_ 1 12 ?_
  refine pu_ 2 13 ?_
  refine pu_ 4 15 ?_
  refine pu_ 5 16 ?_
  refine pu_ 6 17 ?_
  refine tk_ 3 14 hHeld ?_
  refine tk_ 7 18 hHeld ?_
  refine join_ (σ:=Nat × Nat) 2 #[true,true,true,true,true,true,true,true,true,true,false,false] (fun s_=>[(9,.pointer (some ⟨s_.1,0,none⟩)),(10,.pointer (some ⟨s_.2,0,none⟩))]) (fun s_ w'=>(w'.cell? (ad556.add ((a2).toNat * 4))=some (.int .i64 ((rd_T31 l0 a2).f0))/\w'.cell? ⟨(ad556.add ((a2).toNat * 4)).block,(ad556.add ((a2).toNat * 4)).off + 1,none⟩=some (.int .i64 ((rd_T31 l0 a2).f1))/\w'.cell? ⟨(ad556.add ((a2).toNat * 4)).block,(ad556.add ((a2).toNat * 4)).off + 2,none⟩=some (.int .i64 ((rd_T31 l0 a2).f2))/\w'.cell? ⟨(ad556.add ((a2).toNat * 4)).block,(ad556.add ((a2).toNat * 4)).off + 3,none⟩=some (.int .i64 ((rd_T31 l0 a2).f3))/\w'.cell? (ad556.add ((a3).toNat * 4))=some (.int .i64 ((rd_T31 l0 a3).f0))/\w'.cell? ⟨(ad556.add ((a3).toNat * 4)).block,(ad556.add ((a3).toNat * 4)).off + 1,none⟩=some (.int .i64 ((rd_T31 l0 a3).f1))/\w'.cell? ⟨(ad556.add ((a3).toNat * 4)).block,(ad556.add ((a3).toNat * 4)).off + 2,none⟩=some (.int .i64 ((rd_T31 l0 a3).f2))/\w'.cell? ⟨(ad556.add ((a3).toNat * 4)).block,(ad556.add ((a3).toNat * 4)).off + 3,none⟩=some (.int .i64 ((rd_T31 l0 a3).f3)))/\(w'.heap[s_.1]?=some (.cells #[.int .i64 0,.int .i64 0,.int .i64 0,.int .i64 0] 31 (0,0)))/\(w'.heap[s_.2]?=some (.cells #[.int .i64 0,.int .i64 0,.int .i64 0,.int .i64 0] 31 (0,0)))/\(w.heap.size<=s_.1)/\(w.heap.size<=s_.1)/\(s_.2≠s_.1)/\(s_.1≠s_.2)/\(w.heap.size<=s_.2)/\(w.heap.size<=s_.2)/\(Below w.heap.size w w')) ?_ ?_
  rotate_left
  ·intro hCont
   refine two_ (i:=8) (j:=9) (Ni:=some 9) (Nj:=some 10) #[true,true,true,true,true,true,true,true,true,false,false,false] #[true,true,true,true,true,true,true,true,false,true,false,false] rfl rfl rfl rfl (two_of HT_.out (by kernel_rfl)) (by decide) (by decide) (fun K hK=>?_) (fun K hK=>?_)
   ·skip
    refine box_step ?hg (N:=9) ?hd (cs:=#[.int .i64 0,.int .i64 0,.int .i64 0,.int .i64 0]) (t:=31) ?hr ?_;(case hd=>rfl);(case hg=>rfl);(case hr=>(go_simp;done))
    intro gb558 hg w27 hbox hb
    have n0_:=zb1 hb
    have n1_:=ak_ (hbox)
    have n2_:=ak_ ((by rw [hg];exact (below_size zb):w.heap.size<=gb558))
    have n3_:=ak_ ((by rw [hg];exact (below_size zb):w.heap.size<=gb558))
    clear HB
    have HB:=n0_
    have BK558:=n1_
    have GW558:=n2_
    have GE558:=n3_
    clear n0_ n1_ n2_ n3_
    clear hb hbox hg
    refine hK.out _ _ ⟨(zq_ HB hw556_0),(zq_ HB hw556_1),(zq_ HB hw556_2),(zq_ HB hw556_3),(zq_ HB hw557_0),(zq_ HB hw557_1),(zq_ HB hw557_2),(zq_ HB hw557_3)⟩ (fun hHeld=>?_)
    clear hK K
    refine norm_ (a':=?_) ?_ ?_
    rotate_left
    ·show Act.put _ (some 9) _=_
     simp only [Act.put,List.setIfInBounds_toArray,List.set_cons_zero,List.set_cons_succ,i64_w,i32_w]
     rfl
    refine one_ (i:=9) (N:=some 10) #[true,true,true,true,true,true,true,true,true,true,false,false] rfl rfl (one_of HT_.out (by kernel_rfl)) (by decide) (fun K hK=>?_)
    refine box_step ?hg (N:=10) ?hd (cs:=#[.int .i64 0,.int .i64 0,.int .i64 0,.int .i64 0]) (t:=31) ?hr ?_;(case hd=>rfl);(case hg=>rfl);(case hr=>(go_simp;done))
    intro gb559 hg w28 hbox hb
    have n0_:=ak_ (blk_below (g:=gb558) (o:=.cells #[.int .i64 0,.int .i64 0,.int .i64 0,.int .i64 0] 31 (0,0)) zz10 hb)
    have n1_:=ak_ (below_step zz43 hb)
    have n2_:=ak_ (hbox)
    have n3_:=ak_ ((by rw [hg];exact (below_size zz43):w.heap.size<=gb559))
    have n4_:=ak_ ((by rw [hg];exact (below_size zz43):w.heap.size<=gb559))
    have n5_:=ak_ ((by rw [hg];exact Nat.ne_of_lt (blk_lt (g:=gb558) (o:=.cells #[.int .i64 0,.int .i64 0,.int .i64 0,.int .i64 0] 31 (0,0)) zz10):gb558≠gb559))
    have n6_:=ak_ ((by rw [hg];exact Nat.ne_of_gt (blk_lt (g:=gb558) (o:=.cells #[.int .i64 0,.int .i64 0,.int .i64 0,.int .i64 0] 31 (0,0)) zz10):gb559≠gb558))
    clear BK558
    clear HB
    have BK558:=n0_
    have HB:=n1_
    have BK559:=n2_
    have GW559:=n3_
    have GE559:=n4_
    have NB558_559:=n5_
    have NB559_558:=n6_
    clear n0_ n1_ n2_ n3_ n4_ n5_ n6_
    clear hb hbox hg
    refine hK.out _ _ ⟨(zq_ HB hw556_0),(zq_ HB hw556_1),(zq_ HB hw556_2),(zq_ HB hw556_3),(zq_ HB hw557_0),(zq_ HB hw557_1),(zq_ HB hw557_2),(zq_ HB hw557_3)⟩ (fun hHeld=>?_)
    clear hK K
    refine norm_ (a':=?_) ?_ ?_
    rotate_left
    ·show Act.put _ (some 10) _=_
     simp only [Act.put,List.setIfInBounds_toArray,List.set_cons_zero,List.set_cons_succ,i64_w,i32_w]
     rfl
    exact norm_ zz12 (hCont (gb558,gb559) _ ⟨hHeld,zz10,zz11,GW558.out,GE558.out,NB559_558.out,NB558_559.out,GW559.out,GE559.out,zz62⟩)
   ·skip
    refine box_step ?hg (N:=10) ?hd (cs:=#[.int .i64 0,.int .i64 0,.int .i64 0,.int .i64 0]) (t:=31) ?hr ?_;(case hd=>rfl);(case hg=>rfl);(case hr=>(go_simp;done))
    intro gb559 hg w27 hbox hb
    have n0_:=zb1 hb
    have n1_:=ak_ (hbox)
    have n2_:=ak_ ((by rw [hg];exact (below_size zb):w.heap.size<=gb559))
    have n3_:=ak_ ((by rw [hg];exact (below_size zb):w.heap.size<=gb559))
    clear HB
    have HB:=n0_
    have BK559:=n1_
    have GW559:=n2_
    have GE559:=n3_
    clear n0_ n1_ n2_ n3_
    clear hb hbox hg
    refine hK.out _ _ ⟨(zq_ HB hw556_0),(zq_ HB hw556_1),(zq_ HB hw556_2),(zq_ HB hw556_3),(zq_ HB hw557_0),(zq_ HB hw557_1),(zq_ HB hw557_2),(zq_ HB hw557_3)⟩ (fun hHeld=>?_)
    clear hK K
    refine norm_ (a':=?_) ?_ ?_
    rotate_left
    ·show Act.put _ (some 10) _=_
     simp only [Act.put,List.setIfInBounds_toArray,List.set_cons_zero,List.set_cons_succ,i64_w,i32_w]
     rfl
    refine one_ (i:=8) (N:=some 9) #[true,true,true,true,true,true,true,true,true,true,false,false] rfl rfl (one_of HT_.out (by kernel_rfl)) (by decide) (fun K hK=>?_)
    refine box_step ?hg (N:=9) ?hd (cs:=#[.int .i64 0,.int .i64 0,.int .i64 0,.int .i64 0]) (t:=31) ?hr ?_;(case hd=>rfl);(case hg=>rfl);(case hr=>(go_simp;done))
    intro gb558 hg w28 hbox hb
    have n0_:=ak_ (blk_below (g:=gb559) (o:=.cells #[.int .i64 0,.int .i64 0,.int .i64 0,.int .i64 0] 31 (0,0)) zz11 hb)
    have n1_:=ak_ (below_step zz44 hb)
    have n2_:=ak_ (hbox)
    have n3_:=ak_ ((by rw [hg];exact (below_size zz44):w.heap.size<=gb558))
    have n4_:=ak_ ((by rw [hg];exact (below_size zz44):w.heap.size<=gb558))
    have n5_:=ak_ ((by rw [hg];exact Nat.ne_of_lt (blk_lt (g:=gb559) (o:=.cells #[.int .i64 0,.int .i64 0,.int .i64 0,.int .i64 0] 31 (0,0)) zz11):gb559≠gb558))
    have n6_:=ak_ ((by rw [hg];exact Nat.ne_of_gt (blk_lt (g:=gb559) (o:=.cells #[.int .i64 0,.int .i64 0,.int .i64 0,.int .i64 0] 31 (0,0)) zz11):gb558≠gb559))
    clear BK559
    clear HB
    have BK559:=n0_
    have HB:=n1_
    have BK558:=n2_
    have GW558:=n3_
    have GE558:=n4_
    have NB559_558:=n5_
    have NB558_559:=n6_
    clear n0_ n1_ n2_ n3_ n4_ n5_ n6_
    clear hb hbox hg
    refine hK.out _ _ ⟨(zq_ HB hw556_0),(zq_ HB hw556_1),(zq_ HB hw556_2),(zq_ HB hw556_3),(zq_ HB hw557_0),(zq_ HB hw557_1),(zq_ HB hw557_2),(zq_ HB hw557_3)⟩ (fun hHeld=>?_)
    clear hK K
    refine norm_ (a':=?_) ?_ ?_
    rotate_left
    ·show Act.put _ (some 9) _=_
     simp only [Act.put,List.setIfInBounds_toArray,List.set_cons_zero,List.set_cons_succ,i64_w,i32_w]
     rfl
    exact norm_ zz12 (hCont (gb558,gb559) _ ⟨hHeld,zz10,zz11,GW558.out,GE558.out,NB559_558.out,NB558_559.out,GW559.out,GE559.out,zz79⟩)
  rintro ⟨gb558,gb559⟩ w29 ⟨hS_,h0_,h1_,h2_,h3_,h4_,h5_,h6_,h7_,h8_⟩
  have n0_:Aside0 (w29.heap[gb558]?=some (.cells #[.int .i64 0,.int .i64 0,.int .i64 0,.int .i64 0] 31 (0,0))):=⟨h0_⟩
  have n1_:Aside0 (w29.heap[gb559]?=some (.cells #[.int .i64 0,.int .i64 0,.int .i64 0,.int .i64 0] 31 (0,0))):=⟨h1_⟩
  have n2_:Aside0 (w.heap.size<=gb558):=⟨h2_⟩
  have n3_:Aside0 (w.heap.size<=gb558):=⟨h3_⟩
  have n4_:Aside0 (gb559≠gb558):=⟨h4_⟩
  have n5_:Aside0 (gb558≠gb559):=⟨h5_⟩
  have n6_:Aside0 (w.heap.size<=gb559):=⟨h6_⟩
  have n7_:Aside0 (w.heap.size<=gb559):=⟨h7_⟩
  have n8_:Aside0 (Below w.heap.size w w29):=⟨h8_⟩
  clear HB
  clear h0_ h1_ h2_ h3_ h4_ h5_ h6_ h7_ h8_
  have BK558:=n0_
  have BK559:=n1_
  have GW558:=n2_
  have GE558:=n3_
  have NB559_558:=n4_
  have NB558_559:=n5_
  have GW559:=n6_
  have GE559:=n7_
  have HB:=n8_
  clear n0_ n1_ n2_ n3_ n4_ n5_ n6_ n7_ n8_
  have hHeld:w29.cell? (ad556.add ((a2).toNat * 4))=some (.int .i64 ((rd_T31 l0 a2).f0))/\w29.cell? ⟨(ad556.add ((a2).toNat * 4)).block,(ad556.add ((a2).toNat * 4)).off + 1,none⟩=some (.int .i64 ((rd_T31 l0 a2).f1))/\w29.cell? ⟨(ad556.add ((a2).toNat * 4)).block,(ad556.add ((a2).toNat * 4)).off + 2,none⟩=some (.int .i64 ((rd_T31 l0 a2).f2))/\w29.cell? ⟨(ad556.add ((a2).toNat * 4)).block,(ad556.add ((a2).toNat * 4)).off + 3,none⟩=some (.int .i64 ((rd_T31 l0 a2).f3))/\w29.cell? (ad556.add ((a3).toNat * 4))=some (.int .i64 ((rd_T31 l0 a3).f0))/\w29.cell? ⟨(ad556.add ((a3).toNat * 4)).block,(ad556.add ((a3).toNat * 4)).off + 1,none⟩=some (.int .i64 ((rd_T31 l0 a3).f1))/\w29.cell? ⟨(ad556.add ((a3).toNat * 4)).block,(ad556.add ((a3).toNat * 4)).off + 2,none⟩=some (.int .i64 ((rd_T31 l0 a3).f2))/\w29.cell? ⟨(ad556.add ((a3).toNat * 4)).block,(ad556.add ((a3).toNat * 4)).off + 3,none⟩=some (.int .i64 ((rd_T31 l0 a3).f3)):=hS_
  refine norm_ (a':=?_) ?_ ?_
  rotate_left
  ·simp only [putAll,Act.put,List.setIfInBounds_toArray,List.set_cons_zero,List.set_cons_succ]
   rfl
  refine one_ (i:=10) (N:=none) #[true,true,true,true,true,true,true,true,true,true,true,false] rfl rfl (one_of HT_.out (by kernel_rfl)) (by decide) (fun K hK=>?_)
  have hs30:w29.cell? ⟨gb558,0,none⟩=some (.int .i64 0):=(blk_cell BK558.out 0).trans rfl
  have hfs30:=blk_frozen BK558.out 0
  have hns30_1:=NB559_558.out
  have hms30_1:=NB558_559.out
  have hs31:w29.cell? ⟨gb558,1,none⟩=some (.int .i64 0):=(blk_cell BK558.out 1).trans rfl
  have hfs31:=blk_frozen BK558.out 1
  have hns31_1:=NB559_558.out
  have hms31_1:=NB558_559.out
  have hs32:w29.cell? ⟨gb558,2,none⟩=some (.int .i64 0):=(blk_cell BK558.out 2).trans rfl
  have hfs32:=blk_frozen BK558.out 2
  have hns32_1:=NB559_558.out
  have hms32_1:=NB558_559.out
  have hs33:w29.cell? ⟨gb558,3,none⟩=some (.int .i64 0):=(blk_cell BK558.out 3).trans rfl
  have hfs33:=blk_frozen BK558.out 3
  have hns33_1:=NB559_558.out
  have hms33_1:=NB558_559.out
  refine skip_ (w1:=?_) (by rfl) rfl ?_ ?_
  rotate_left
  ·go_simp
   rfl
  refine hK.out _ _ ⟨((cell_far (p:=⟨gb558,_,none⟩) zz16 _).trans (((cell_far (p:=⟨gb558,_,none⟩) zz16 _).trans (((cell_far (p:=⟨gb558,_,none⟩) zz16 _).trans (((cell_far (p:=⟨gb558,_,none⟩) zz16 _).trans (hHeld.1)))))))),((cell_far (p:=⟨gb558,_,none⟩) zz17 _).trans (((cell_far (p:=⟨gb558,_,none⟩) zz17 _).trans (((cell_far (p:=⟨gb558,_,none⟩) zz17 _).trans (((cell_far (p:=⟨gb558,_,none⟩) zz17 _).trans (hHeld.2.1)))))))),((cell_far (p:=⟨gb558,_,none⟩) zz18 _).trans (((cell_far (p:=⟨gb558,_,none⟩) zz18 _).trans (((cell_far (p:=⟨gb558,_,none⟩) zz18 _).trans (((cell_far (p:=⟨gb558,_,none⟩) zz18 _).trans (hHeld.2.2.1)))))))),((cell_far (p:=⟨gb558,_,none⟩) zz19 _).trans (((cell_far (p:=⟨gb558,_,none⟩) zz19 _).trans (((cell_far (p:=⟨gb558,_,none⟩) zz19 _).trans (((cell_far (p:=⟨gb558,_,none⟩) zz19 _).trans (hHeld.2.2.2.1)))))))),((cell_far (p:=⟨gb558,_,none⟩) zz20 _).trans (((cell_far (p:=⟨gb558,_,none⟩) zz20 _).trans (((cell_far (p:=⟨gb558,_,none⟩) zz20 _).trans (((cell_far (p:=⟨gb558,_,none⟩) zz20 _).trans (hHeld.2.2.2.2.1)))))))),((cell_far (p:=⟨gb558,_,none⟩) zz21 _).trans (((cell_far (p:=⟨gb558,_,none⟩) zz21 _).trans (((cell_far (p:=⟨gb558,_,none⟩) zz21 _).trans (((cell_far (p:=⟨gb558,_,none⟩) zz21 _).trans (hHeld.2.2.2.2.2.1)))))))),((cell_far (p:=⟨gb558,_,none⟩) zz22 _).trans (((cell_far (p:=⟨gb558,_,none⟩) zz22 _).trans (((cell_far (p:=⟨gb558,_,none⟩) zz22 _).trans (((cell_far (p:=⟨gb558,_,none⟩) zz22 _).trans (hHeld.2.2.2.2.2.2.1)))))))),((cell_far (p:=⟨gb558,_,none⟩) zz23 _).trans (((cell_far (p:=⟨gb558,_,none⟩) zz23 _).trans (((cell_far (p:=⟨gb558,_,none⟩) zz23 _).trans (((cell_far (p:=⟨gb558,_,none⟩) zz23 _).trans (hHeld.2.2.2.2.2.2.2))))))))⟩ (fun hHeld=>?_)
  clear hK K
  refine one_ (i:=11) (N:=none) #[true,true,true,true,true,true,true,true,true,true,true,true] rfl rfl (one_of HT_.out (by kernel_rfl)) (by decide) (fun K hK=>?_)
  have hs34:w29.cell? ⟨gb559,0,none⟩=some (.int .i64 0):=(blk_cell BK559.out 0).trans rfl
  have hfs34:=blk_frozen BK559.out 0
  have hns34_0:=NB558_559.out
  have hms34_0:=NB559_558.out
  have hs35:w29.cell? ⟨gb559,1,none⟩=some (.int .i64 0):=(blk_cell BK559.out 1).trans rfl
  have hfs35:=blk_frozen BK559.out 1
  have hns35_0:=NB558_559.out
  have hms35_0:=NB559_558.out
  have hs36:w29.cell? ⟨gb559,2,none⟩=some (.int .i64 0):=(blk_cell BK559.out 2).trans rfl
  have hfs36:=blk_frozen BK559.out 2
  have hns36_0:=NB558_559.out
  have hms36_0:=NB559_558.out
  have hs37:w29.cell? ⟨gb559,3,none⟩=some (.int .i64 0):=(blk_cell BK559.out 3).trans rfl
  have hfs37:=blk_frozen BK559.out 3
  have hns37_0:=NB558_559.out
  have hms37_0:=NB559_558.out
  refine skip_ (w1:=?_) (by rfl) rfl ?_ ?_
  rotate_left
  ·go_simp
   rfl
  refine hK.out _ _ ⟨((cell_far (p:=⟨gb559,_,none⟩) zz24 _).trans (((cell_far (p:=⟨gb559,_,none⟩) zz24 _).trans (((cell_far (p:=⟨gb559,_,none⟩) zz24 _).trans (((cell_far (p:=⟨gb559,_,none⟩) zz24 _).trans (hHeld.1)))))))),((cell_far (p:=⟨gb559,_,none⟩) zz25 _).trans (((cell_far (p:=⟨gb559,_,none⟩) zz25 _).trans (((cell_far (p:=⟨gb559,_,none⟩) zz25 _).trans (((cell_far (p:=⟨gb559,_,none⟩) zz25 _).trans (hHeld.2.1)))))))),((cell_far (p:=⟨gb559,_,none⟩) zz26 _).trans (((cell_far (p:=⟨gb559,_,none⟩) zz26 _).trans (((cell_far (p:=⟨gb559,_,none⟩) zz26 _).trans (((cell_far (p:=⟨gb559,_,none⟩) zz26 _).trans (hHeld.2.2.1)))))))),((cell_far (p:=⟨gb559,_,none⟩) zz27 _).trans (((cell_far (p:=⟨gb559,_,none⟩) zz27 _).trans (((cell_far (p:=⟨gb559,_,none⟩) zz27 _).trans (((cell_far (p:=⟨gb559,_,none⟩) zz27 _).trans (hHeld.2.2.2.1)))))))),((cell_far (p:=⟨gb559,_,none⟩) zz28 _).trans (((cell_far (p:=⟨gb559,_,none⟩) zz28 _).trans (((cell_far (p:=⟨gb559,_,none⟩) zz28 _).trans (((cell_far (p:=⟨gb559,_,none⟩) zz28 _).trans (hHeld.2.2.2.2.1)))))))),((cell_far (p:=⟨gb559,_,none⟩) zz29 _).trans (((cell_far (p:=⟨gb559,_,none⟩) zz29 _).trans (((cell_far (p:=⟨gb559,_,none⟩) zz29 _).trans (((cell_far (p:=⟨gb559,_,none⟩) zz29 _).trans (hHeld.2.2.2.2.2.1)))))))),((cell_far (p:=⟨gb559,_,none⟩) zz30 _).trans (((cell_far (p:=⟨gb559,_,none⟩) zz30 _).trans (((cell_far (p:=⟨gb559,_,none⟩) zz30 _).trans (((cell_far (p:=⟨gb559,_,none⟩) zz30 _).trans (hHeld.2.2.2.2.2.2.1)))))))),((cell_far (p:=⟨gb559,_,none⟩) zz31 _).trans (((cell_far (p:=⟨gb559,_,none⟩) zz31 _).trans (((cell_far (p:=⟨gb559,_,none⟩) zz31 _).trans (((cell_far (p:=⟨gb559,_,none⟩) zz31 _).trans (hHeld.2.2.2.2.2.2.2))))))))⟩ (fun hHeld=>?_)
  clear hK K
  refine done_ (done_of HT_.out (by kernel_rfl)) ?_
  have hnb38:=NB558_559.out
  have hnc38:=NB559_558.out
  obtain ⟨hcz39_0,hcz39_1,hcz39_2,hcz39_3,hfz39_0,hfz39_1,hfz39_2,hfz39_3⟩:=zk4 BK558.out
  obtain ⟨hcz40_0,hcz40_1,hcz40_2,hcz40_3,hfz40_0,hfz40_1,hfz40_2,hfz40_3⟩:=zk4 BK559.out
  try go_wp2
  go_ret
  exact ⟨zz0,zz62⟩
 have c25b0:(a1 == 2)=false:=beq_eq_false_iff_ne.mpr c25
 have c25b1:(a1 != 2)=true:=bne_iff_ne.mpr c25
 replace H:=gN H;rcases H with ⟨c41,H⟩ | ⟨c41,H⟩
 ·have c41b0:(a1 == 3)=false:=beq_eq_false_iff_ne.mpr c41
  have c41b1:(a1 != 3)=true:=bne_iff_ne.mpr c41
  obtain rfl:=oi_ H
  go_enter Try.func88,Try.ntmps88
  try go_wp2
  replace HB:=ak_ (below_drew1 HB.out)
  have p556:0<=(a2:Int):=oz_
  have q556:a2<(l0.length:Int):=oz_
  obtain ⟨ad556,e556,hx556_0,hx556_1,hx556_2,hx556_3⟩:=at_T31 HR0.out a2 p556 q556
  have hw556_3:=hx556_3
  have hw556_2:=hx556_2
  have hw556_1:=hx556_1
  have hw556_0:=hx556_0
  cases e556
  replace hx556_0:=zh_ HB hx556_0
  replace hx556_1:=zh_ HB hx556_1
  replace hx556_2:=zh_ HB hx556_2
  replace hx556_3:=zh_ HB hx556_3
  replace p556:=eq_true p556
  replace q556:=eq_true q556
  have p557:0<=(a3:Int):=oz_
  have q557:a3<(l0.length:Int):=oz_
  obtain ⟨ad557,e557,hx557_0,hx557_1,hx557_2,hx557_3⟩:=at_T31 HR0.out a3 p557 q557
  have hw557_3:=hx557_3
  have hw557_2:=hx557_2
  have hw557_1:=hx557_1
  have hw557_0:=hx557_0
  obtain rfl:ad556=ad557:=(by injection e557)
  replace hx557_0:=zh_ HB hx557_0
  replace hx557_1:=zh_ HB hx557_1
  replace hx557_2:=zh_ HB hx557_2
  replace hx557_3:=zh_ HB hx557_3
  replace p557:=eq_true p557
  replace q557:=eq_true q557
  refine start_ (n:=12) (S:=fun w'=>w'.cell? (ad556.add ((a2).toNat * 4))=some (.int .i64 ((rd_T31 l0 a2).f0))/\w'.cell? ⟨(ad556.add ((a2).toNat * 4)).block,(ad556.add ((a2).toNat * 4)).off + 1,none⟩=some (.int .i64 ((rd_T31 l0 a2).f1))/\w'.cell? ⟨(ad556.add ((a2).toNat * 4)).block,(ad556.add ((a2).toNat * 4)).off + 2,none⟩=some (.int .i64 ((rd_T31 l0 a2).f2))/\w'.cell? ⟨(ad556.add ((a2).toNat * 4)).block,(ad556.add ((a2).toNat * 4)).off + 3,none⟩=some (.int .i64 ((rd_T31 l0 a2).f3))/\w'.cell? (ad556.add ((a3).toNat * 4))=some (.int .i64 ((rd_T31 l0 a3).f0))/\w'.cell? ⟨(ad556.add ((a3).toNat * 4)).block,(ad556.add ((a3).toNat * 4)).off + 1,none⟩=some (.int .i64 ((rd_T31 l0 a3).f1))/\w'.cell? ⟨(ad556.add ((a3).toNat * 4)).block,(ad556.add ((a3).toNat * 4)).off + 2,none⟩=some (.int .i64 ((rd_T31 l0 a3).f2))/\w'.cell? ⟨(ad556.add ((a3).toNat * 4)).block,(ad556.add ((a3).toNat * 4)).off + 3,none⟩=some (.int .i64 ((rd_T31 l0 a3).f3))) (ds:=[]) #[false,false,false,false,false,false,false,false,false,false,false,false] (by kernel_rfl) rfl rfl ⟨(zq_ HB hw556_0),(zq_ HB hw556_1),(zq_ HB hw556_2),(zq_ HB hw556_3),(zq_ HB hw557_0),(zq_ HB hw557_1),(zq_ HB hw557_2),(zq_ HB hw557_3)⟩ (fun hHeld=>?_);refine with_tabW spec_l3Gap.tab1 spec_l3Gap.bits1 (fun HT_ HW_=>?_)
  generalize w.drew=w57 at HB hx556_0 hx556_1 hx556_2 hx556_3 hx557_0 hx557_1 hx557_2 hx557_3 hHeld ⊢
  refine pu_ 0 11 ?_
  refine pu_ 1 12 ?_
  refine pu_ 2 13 ?_
  refine pu_ 4 15 ?_
  refine pu_ 5 16 ?_
  refine pu_ 6 17 ?_
  refine tk_ 3 14 hHeld ?_
  refine tk_ 7 18 hHeld ?_
  refine join_ (σ:=Nat × Nat) 2 #[true,true,true,true,true,true,true,true,true,true,false,false] (fun s_=>[(9,.pointer (some ⟨s_.1,0,none⟩)),(10,.pointer (some ⟨s_.2,0,none⟩))]) (fun s_ w'=>(w'.cell? (ad556.add ((a2).toNat * 4))=some (.int .i64 ((rd_T31 l0 a2).f0))/\w'.cell? ⟨(ad556.add ((a2).toNat * 4)).block,(ad556.add ((a2).toNat * 4)).off + 1,none⟩=some (.int .i64 ((rd_T31 l0 a2).f1))/\w'.cell? ⟨(ad556.add ((a2).toNat * 4)).block,(ad556.add ((a2).toNat * 4)).off + 2,none⟩=some (.int .i64 ((rd_T31 l0 a2).f2))/\w'.cell? ⟨(ad556.add ((a2).toNat * 4)).block,(ad556.add ((a2).toNat * 4)).off + 3,none⟩=some (.int .i64 ((rd_T31 l0 a2).f3))/\w'.cell? (ad556.add ((a3).toNat * 4))=some (.int .i64 ((rd_T31 l0 a3).f0))/\w'.cell? ⟨(ad556.add ((a3).toNat * 4)).block,(ad556.add ((a3).toNat * 4)).off + 1,none⟩=some (.int .i64 ((rd_T31 l0 a3).f1))/\w'.cell? ⟨(ad556.add ((a3).toNat * 4)).block,(ad556.add ((a3).toNat * 4)).off + 2,none⟩=some (.int .i64 ((rd_T31 l0 a3).f2))/\w'.cell? ⟨(ad556.add ((a3).toNat * 4)).block,(ad556.add ((a3).toNat * 4)).off + 3,none⟩=some (.int .i64 ((rd_T31 l0 a3).f3)))/\(w'.heap[s_.1]?=some (.cells #[.int .i64 0,.int .i64 0,.int .i64 0,.int .i64 0] 31 (0,0)))/\(w'.heap[s_.2]?=some (.cells #[.int .i64 0,.int .i64 0,.int .i64 0,.int .i64 0] 31 (0,0)))/\(w.heap.size<=s_.1)/\(w.heap.size<=s_.1)/\(s_.2≠s_.1)/\(s_.1≠s_.2)/\(w.heap.size<=s_.2)/\(w.heap.size<=s_.2)/\(Below w.heap.size w w')) ?_ ?_
  rotate_left
  ·intro hCont
   refine two_ (i:=8) (j:=9) (Ni:=some 9) (Nj:=some 10) #[true,true,true,true,true,true,true,true,true,false,false,false] #[true,true,true,true,true,true,true,true,false,true,false,false] rfl rfl rfl rfl (two_of HT_.out (by kernel_rfl)) (by decide) (by decide) (fun K hK=>?_) (fun K hK=>?_)
   ·skip
    refine box_step ?hg (N:=9) ?hd (cs:=#[.int .i64 0,.int .i64 0,.int .i64 0,.int .i64 0]) (t:=31) ?hr ?_;(case hd=>rfl);(case hg=>rfl);(case hr=>(go_simp;done))
    intro gb558 hg w58 hbox hb
    have n0_:=zb1 hb
    have n1_:=ak_ (hbox)
    have n2_:=ak_ ((by rw [hg];exact (below_size zb):w.heap.size<=gb558))
    have n3_:=ak_ ((by rw [hg];exact (below_size zb):w.heap.size<=gb558))
    clear HB
    have HB:=n0_
    have BK558:=n1_
    have GW558:=n2_
    have GE558:=n3_
    clear n0_ n1_ n2_ n3_
    clear hb hbox hg
    refine hK.out _ _ ⟨(zq_ HB hw556_0),(zq_ HB hw556_1),(zq_ HB hw556_2),(zq_ HB hw556_3),(zq_ HB hw557_0),(zq_ HB hw557_1),(zq_ HB hw557_2),(zq_ HB hw557_3)⟩ (fun hHeld=>?_)
    clear hK K
    refine norm_ (a':=?_) ?_ ?_
    rotate_left
    ·show Act.put _ (some 9) _=_
     simp only [Act.put,List.setIfInBounds_toArray,List.set_cons_zero,List.set_cons_succ,i64_w,i32_w]
     rfl
    refine one_ (i:=9) (N:=some 10) #[true,true,true,true,true,true,true,true,true,true,false,false] rfl rfl (one_of HT_.out (by kernel_rfl)) (by decide) (fun K hK=>?_)
    refine box_step ?hg (N:=10) ?hd (cs:=#[.int .i64 0,.int .i64 0,.int .i64 0,.int .i64 0]) (t:=31) ?hr ?_;(case hd=>rfl);(case hg=>rfl);(case hr=>(go_simp;done))
    intro gb559 hg w59 hbox hb
    have n0_:=ak_ (blk_below (g:=gb558) (o:=.cells #[.int .i64 0,.int .i64 0,.int .i64 0,.int .i64 0] 31 (0,0)) zz10 hb)
    have n1_:=ak_ (below_step zz43 hb)
    have n2_:=ak_ (hbox)
    have n3_:=ak_ ((by rw [hg];exact (below_size zz43):w.heap.size<=gb559))
    have n4_:=ak_ ((by rw [hg];exact (below_size zz43):w.heap.size<=gb559))
    have n5_:=ak_ ((by rw [hg];exact Nat.ne_of_lt (blk_lt (g:=gb558) (o:=.cells #[.int .i64 0,.int .i64 0,.int .i64 0,.int .i64 0] 31 (0,0)) zz10):gb558≠gb559))
    have n6_:=ak_ ((by rw [hg];exact Nat.ne_of_gt (blk_lt (g:=gb558) (o:=.cells #[.int .i64 0,.int .i64 0,.int .i64 0,.int .i64 0] 31 (0,0)) zz10):gb559≠gb558))
    clear BK558
    clear HB
    have BK558:=n0_
    have HB:=n1_
    have BK559:=n2_
    have GW559:=n3_
    have GE559:=n4_
    have NB558_559:=n5_
    have NB559_558:=n6_
    clear n0_ n1_ n2_ n3_ n4_ n5_ n6_
    clear hb hbox hg
    refine hK.out _ _ ⟨(zq_ HB hw556_0),(zq_ HB hw556_1),(zq_ HB hw556_2),(zq_ HB hw556_3),(zq_ HB hw557_0),(zq_ HB hw557_1),(zq_ HB hw557_2),(zq_ HB hw557_3)⟩ (fun hHeld=>?_)
    clear hK K
    refine norm_ (a':=?_) ?_ ?_
    rotate_left
    ·show Act.put _ (some 10) _=_
     simp only [Act.put,List.setIfInBounds_toArray,List.set_cons_zero,List.set_cons_succ,i64_w,i32_w]
     rfl
    exact norm_ zz12 (hCont (gb558,gb559) _ ⟨hHeld,zz10,zz11,GW558.out,GE558.out,NB559_558.out,NB558_559.out,GW559.out,GE559.out,zz62⟩)
   ·skip
    refine box_step ?hg (N:=10) ?hd (cs:=#[.int .i64 0,.int .i64 0,.int .i64 0,.int .i64 0]) (t:=31) ?hr ?_;(case hd=>rfl);(case hg=>rfl);(case hr=>(go_simp;done))
    intro gb559 hg w58 hbox hb
    have n0_:=zb1 hb
    have n1_:=ak_ (hbox)
    have n2_:=ak_ ((by rw [hg];exact (below_size zb):w.heap.size<=gb559))
    have n3_:=ak_ ((by rw [hg];exact (below_size zb):w.heap.size<=gb559))
    clear HB
    have HB:=n0_
    have BK559:=n1_
    have GW559:=n2_
    have GE559:=n3_
    clear n0_ n1_ n2_ n3_
    clear hb hbox hg
    refine hK.out _ _ ⟨(zq_ HB hw556_0),(zq_ HB hw556_1),(zq_ HB hw556_2),(zq_ HB hw556_3),(zq_ HB hw557_0),(zq_ HB hw557_1),(zq_ HB hw557_2),(zq_ HB hw557_3)⟩ (fun hHeld=>?_)
    clear hK K
    refine norm_ (a':=?_) ?_ ?_
    rotate_left
    ·show Act.put _ (some 10) _=_
     simp only [Act.put,List.setIfInBounds_toArray,List.set_cons_zero,List.set_cons_succ,i64_w,i32_w]
     rfl
    refine one_ (i:=8) (N:=some 9) #[true,true,true,true,true,true,true,true,true,true,false,false] rfl rfl (one_of HT_.out (by kernel_rfl)) (by decide) (fun K hK=>?_)
    refine box_step ?hg (N:=9) ?hd (cs:=#[.int .i64 0,.int .i64 0,.int .i64 0,.int .i64 0]) (t:=31) ?hr ?_;(case hd=>rfl);(case hg=>rfl);(case hr=>(go_simp;done))
    intro gb558 hg w59 hbox hb
    have n0_:=ak_ (blk_below (g:=gb559) (o:=.cells #[.int .i64 0,.int .i64 0,.int .i64 0,.int .i64 0] 31 (0,0)) zz11 hb)
    have n1_:=ak_ (below_step zz44 hb)
    have n2_:=ak_ (hbox)
    have n3_:=ak_ ((by rw [hg];exact (below_size zz44):w.heap.size<=gb558))
    have n4_:=ak_ ((by rw [hg];exact (below_size zz44):w.heap.size<=gb558))
    have n5_:=ak_ ((by rw [hg];exact Nat.ne_of_lt (blk_lt (g:=gb559) (o:=.cells #[.int .i64 0,.int .i64 0,.int .i64 0,.int .i64 0] 31 (0,0)) zz11):gb559≠gb558))
    have n6_:=ak_ ((by rw [hg];exact Nat.ne_of_gt (blk_lt (g:=gb559) (o:=.cells #[.int .i64 0,.int .i64 0,.int .i64 0,.int .i64 0] 31 (0,0)) zz11):gb558≠gb559))
    clear BK559
    clear HB
    have BK559:=n0_
    have HB:=n1_
    have BK558:=n2_
    have GW558:=n3_
    have GE558:=n4_
    have NB559_558:=n5_
    have NB558_559:=n6_
    clear n0_ n1_ n2_ n3_ n4_ n5_ n6_
    clear hb hbox hg
    refine hK.out _ _ ⟨(zq_ HB hw556_0),(zq_ HB hw556_1),(zq_ HB hw556_2),(zq_ HB hw556_3),(zq_ HB hw557_0),(zq_ HB hw557_1),(zq_ HB hw557_2),(zq_ HB hw557_3)⟩ (fun hHeld=>?_)
    clear hK K
    refine norm_ (a':=?_) ?_ ?_
    rotate_left
    ·show Act.put _ (some 9) _=_
     simp only [Act.put,List.setIfInBounds_toArray,List.set_cons_zero,List.set_cons_succ,i64_w,i32_w]
     rfl
    exact norm_ zz12 (hCont (gb558,gb559) _ ⟨hHeld,zz10,zz11,GW558.out,GE558.out,NB559_558.out,NB558_559.out,GW559.out,GE559.out,zz79⟩)
  rintro ⟨gb558,gb559⟩ w60 ⟨hS_,h0_,h1_,h2_,h3_,h4_,h5_,h6_,h7_,h8_⟩
  have n0_:Aside0 (w60.heap[gb558]?=some (.cells #[.int .i64 0,.int .i64 0,.int .i64 0,.int .i64 0] 31 (0,0))):=⟨h0_⟩
  have n1_:Aside0 (w60.heap[gb559]?=some (.cells #[.int .i64 0,.int .i64 0,.int .i64 0,.int .i64 0] 31 (0,0))):=⟨h1_⟩
  have n2_:Aside0 (w.heap.size<=gb558):=⟨h2_⟩
  have n3_:Aside0 (w.heap.size<=gb558):=⟨h3_⟩
  have n4_:Aside0 (gb559≠gb558):=⟨h4_⟩
  have n5_:Aside0 (gb558≠gb559):=⟨h5_⟩
  have n6_:Aside0 (w.heap.size<=gb559):=⟨h6_⟩
  have n7_:Aside0 (w.heap.size<=gb559):=⟨h7_⟩
  have n8_:Aside0 (Below w.heap.size w w60):=⟨h8_⟩
  clear HB
  clear h0_ h1_ h2_ h3_ h4_ h5_ h6_ h7_ h8_
  have BK558:=n0_
  have BK559:=n1_
  have GW558:=n2_
  have GE558:=n3_
  have NB559_558:=n4_
  have NB558_559:=n5_
  have GW559:=n6_
  have GE559:=n7_
  have HB:=n8_
  clear n0_ n1_ n2_ n3_ n4_ n5_ n6_ n7_ n8_
  have hHeld:w60.cell? (ad556.add ((a2).toNat * 4))=some (.int .i64 ((rd_T31 l0 a2).f0))/\w60.cell? ⟨(ad556.add ((a2).toNat * 4)).block,(ad556.add ((a2).toNat * 4)).off + 1,none⟩=some (.int .i64 ((rd_T31 l0 a2).f1))/\w60.cell? ⟨(ad556.add ((a2).toNat * 4)).block,(ad556.add ((a2).toNat * 4)).off + 2,none⟩=some (.int .i64 ((rd_T31 l0 a2).f2))/\w60.cell? ⟨(ad556.add ((a2).toNat * 4)).block,(ad556.add ((a2).toNat * 4)).off + 3,none⟩=some (.int .i64 ((rd_T31 l0 a2).f3))/\w60.cell? (ad556.add ((a3).toNat * 4))=some (.int .i64 ((rd_T31 l0 a3).f0))/\w60.cell? ⟨(ad556.add ((a3).toNat * 4)).block,(ad556.add ((a3).toNat * 4)).off + 1,none⟩=some (.int .i64 ((rd_T31 l0 a3).f1))/\w60.cell? ⟨(ad556.add ((a3).toNat * 4)).block,(ad556.add ((a3).toNat * 4)).off + 2,none⟩=some (.int .i64 ((rd_T31 l0 a3).f2))/\w60.cell? ⟨(ad556.add ((a3).toNat * 4)).block,(ad556.add ((a3).toNat * 4)).off + 3,none⟩=some (.int .i64 ((rd_T31 l0 a3).f3)):=hS_
  refine norm_ (a':=?_) ?_ ?_
  rotate_left
  ·simp only [putAll,Act.put,List.setIfInBounds_toArray,List.set_cons_zero,List.set_cons_succ]
   rfl
  refine one_ (i:=10) (N:=none) #[true,true,true,true,true,true,true,true,true,true,true,false] rfl rfl (one_of HT_.out (by kernel_rfl)) (by decide) (fun K hK=>?_)
  have hs61:w60.cell? ⟨gb558,0,none⟩=some (.int .i64 0):=(blk_cell BK558.out 0).trans rfl
  have hfs61:=blk_frozen BK558.out 0
  have hns61_1:=NB559_558.out
  have hms61_1:=NB558_559.out
  have hs62:w60.cell? ⟨gb558,1,none⟩=some (.int .i64 0):=(blk_cell BK558.out 1).trans rfl
  have hfs62:=blk_frozen BK558.out 1
  have hns62_1:=NB559_558.out
  have hms62_1:=NB558_559.out
  have hs63:w60.cell? ⟨gb558,2,none⟩=some (.int .i64 0):=(blk_cell BK558.out 2).trans rfl
  have hfs63:=blk_frozen BK558.out 2
  have hns63_1:=NB559_558.out
  have hms63_1:=NB558_559.out
  have hs64:w60.cell? ⟨gb558,3,none⟩=some (.int .i64 0):=(blk_cell BK558.out 3).trans rfl
  have hfs64:=blk_frozen BK558.out 3
  have hns64_1:=NB559_558.out
  have hms64_1:=NB558_559.out
  refine skip_ (w1:=?_) (by rfl) rfl ?_ ?_
  rotate_left
  ·go_simp
   rfl
  refine hK.out _ _ ⟨((cell_far (p:=⟨gb558,_,none⟩) zz16 _).trans (((cell_far (p:=⟨gb558,_,none⟩) zz16 _).trans (((cell_far (p:=⟨gb558,_,none⟩) zz16 _).trans (((cell_far (p:=⟨gb558,_,none⟩) zz16 _).trans (hHeld.1)))))))),((cell_far (p:=⟨gb558,_,none⟩) zz17 _).trans (((cell_far (p:=⟨gb558,_,none⟩) zz17 _).trans (((cell_far (p:=⟨gb558,_,none⟩) zz17 _).trans (((cell_far (p:=⟨gb558,_,none⟩) zz17 _).trans (hHeld.2.1)))))))),((cell_far (p:=⟨gb558,_,none⟩) zz18 _).trans (((cell_far (p:=⟨gb558,_,none⟩) zz18 _).trans (((cell_far (p:=⟨gb558,_,none⟩) zz18 _).trans (((cell_far (p:=⟨gb558,_,none⟩) zz18 _).trans (hHeld.2.2.1)))))))),((cell_far (p:=⟨gb558,_,none⟩) zz19 _).trans (((cell_far (p:=⟨gb558,_,none⟩) zz19 _).trans (((cell_far (p:=⟨gb558,_,none⟩) zz19 _).trans (((cell_far (p:=⟨gb558,_,none⟩) zz19 _).trans (hHeld.2.2.2.1)))))))),((cell_far (p:=⟨gb558,_,none⟩) zz20 _).trans (((cell_far (p:=⟨gb558,_,none⟩) zz20 _).trans (((cell_far (p:=⟨gb558,_,none⟩) zz20 _).trans (((cell_far (p:=⟨gb558,_,none⟩) zz20 _).trans (hHeld.2.2.2.2.1)))))))),((cell_far (p:=⟨gb558,_,none⟩) zz21 _).trans (((cell_far (p:=⟨gb558,_,none⟩) zz21 _).trans (((cell_far (p:=⟨gb558,_,none⟩) zz21 _).trans (((cell_far (p:=⟨gb558,_,none⟩) zz21 _).trans (hHeld.2.2.2.2.2.1)))))))),((cell_far (p:=⟨gb558,_,none⟩) zz22 _).trans (((cell_far (p:=⟨gb558,_,none⟩) zz22 _).trans (((cell_far (p:=⟨gb558,_,none⟩) zz22 _).trans (((cell_far (p:=⟨gb558,_,none⟩) zz22 _).trans (hHeld.2.2.2.2.2.2.1)))))))),((cell_far (p:=⟨gb558,_,none⟩) zz23 _).trans (((cell_far (p:=⟨gb558,_,none⟩) zz23 _).trans (((cell_far (p:=⟨gb558,_,none⟩) zz23 _).trans (((cell_far (p:=⟨gb558,_,none⟩) zz23 _).trans (hHeld.2.2.2.2.2.2.2))))))))⟩ (fun hHeld=>?_)
  clear hK K
  refine one_ (i:=11) (N:=none) #[true,true,true,true,true,true,true,true,true,true,true,true] rfl rfl (one_of HT_.out (by kernel_rfl)) (by decide) (fun K hK=>?_)
  have hs65:w60.cell? ⟨gb559,0,none⟩=some (.int .i64 0):=(blk_cell BK559.out 0).trans rfl
  have hfs65:=blk_frozen BK559.out 0
  have hns65_0:=NB558_559.out
  have hms65_0:=NB559_558.out
  have hs66:w60.cell? ⟨gb559,1,none⟩=some (.int .i64 0):=(blk_cell BK559.out 1).trans rfl
  have hfs66:=blk_frozen BK559.out 1
  have hns66_0:=NB558_559.out
  have hms66_0:=NB559_558.out
  have hs67:w60.cell? ⟨gb559,2,none⟩=some (.int .i64 0):=(blk_cell BK559.out 2).trans rfl
  have hfs67:=blk_frozen BK559.out 2
  have hns67_0:=NB558_559.out
  have hms67_0:=NB559_558.out
  have hs68:w60.cell? ⟨gb559,3,none⟩=some (.int .i64 0):=(blk_cell BK559.out 3).trans rfl
  have hfs68:=blk_frozen BK559.out 3
  have hns68_0:=NB558_559.out
  have hms68_0:=NB559_558.out
  refine skip_ (w1:=?_) (by rfl) rfl ?_ ?_
  rotate_left
  ·go_simp
   rfl
  refine hK.out _ _ ⟨((cell_far (p:=⟨gb559,_,none⟩) zz24 _).trans (((cell_far (p:=⟨gb559,_,none⟩) zz24 _).trans (((cell_far (p:=⟨gb559,_,none⟩) zz24 _).trans (((cell_far (p:=⟨gb559,_,none⟩) zz24 _).trans (hHeld.1)))))))),((cell_far (p:=⟨gb559,_,none⟩) zz25 _).trans (((cell_far (p:=⟨gb559,_,none⟩) zz25 _).trans (((cell_far (p:=⟨gb559,_,none⟩) zz25 _).trans (((cell_far (p:=⟨gb559,_,none⟩) zz25 _).trans (hHeld.2.1)))))))),((cell_far (p:=⟨gb559,_,none⟩) zz26 _).trans (((cell_far (p:=⟨gb559,_,none⟩) zz26 _).trans (((cell_far (p:=⟨gb559,_,none⟩) zz26 _).trans (((cell_far (p:=⟨gb559,_,none⟩) zz26 _).trans (hHeld.2.2.1)))))))),((cell_far (p:=⟨gb559,_,none⟩) zz27 _).trans (((cell_far (p:=⟨gb559,_,none⟩) zz27 _).trans (((cell_far (p:=⟨gb559,_,none⟩) zz27 _).trans (((cell_far (p:=⟨gb559,_,none⟩) zz27 _).trans (hHeld.2.2.2.1)))))))),((cell_far (p:=⟨gb559,_,none⟩) zz28 _).trans (((cell_far (p:=⟨gb559,_,none⟩) zz28 _).trans (((cell_far (p:=⟨gb559,_,none⟩) zz28 _).trans (((cell_far (p:=⟨gb559,_,none⟩) zz28 _).trans (hHeld.2.2.2.2.1)))))))),((cell_far (p:=⟨gb559,_,none⟩) zz29 _).trans (((cell_far (p:=⟨gb559,_,none⟩) zz29 _).trans (((cell_far (p:=⟨gb559,_,none⟩) zz29 _).trans (((cell_far (p:=⟨gb559,_,none⟩) zz29 _).trans (hHeld.2.2.2.2.2.1)))))))),((cell_far (p:=⟨gb559,_,none⟩) zz30 _).trans (((cell_far (p:=⟨gb559,_,none⟩) zz30 _).trans (((cell_far (p:=⟨gb559,_,none⟩) zz30 _).trans (((cell_far (p:=⟨gb559,_,none⟩) zz30 _).trans (hHeld.2.2.2.2.2.2.1)))))))),((cell_far (p:=⟨gb559,_,none⟩) zz31 _).trans (((cell_far (p:=⟨gb559,_,none⟩) zz31 _).trans (((cell_far (p:=⟨gb559,_,none⟩) zz31 _).trans (((cell_far (p:=⟨gb559,_,none⟩) zz31 _).trans (hHeld.2.2.2.2.2.2.2))))))))⟩ (fun hHeld=>?_)
  clear hK K
  refine done_ (done_of HT_.out (by kernel_rfl)) ?_
  have hnb69:=NB558_559.out
  have hnc69:=NB559_558.out
  obtain ⟨hcz70_0,hcz70_1,hcz70_2,hcz70_3,hfz70_0,hfz70_1,hfz70_2,hfz70_3⟩:=zk4 BK558.out
  obtain ⟨hcz71_0,hcz71_1,hcz71_2,hcz71_3,hfz71_0,hfz71_1,hfz71_2,hfz71_3⟩:=zk4 BK559.out
  try go_wp2
  go_ret
  exact ⟨zz0,zz62⟩
 have c41b0:(a1 == 3)=true:=beq_iff_eq.mpr c41
 have c41b1:(a1 != 3)=false:=bne_eq_false_iff_eq.mpr c41
 clear c41
 obtain rfl:=oi_ H
 go_enter Try.func88,Try.ntmps88
 try go_wp2
 replace HB:=ak_ (below_drew1 HB.out)
 have p556:0<=(a2:Int):=oz_
 have q556:a2<(l0.length:Int):=oz_
 obtain ⟨ad556,e556,hx556_0,hx556_1,hx556_2,hx556_3⟩:=at_T31 HR0.out a2 p556 q556
 have hw556_3:=hx556_3
 have hw556_2:=hx556_2
 have hw556_1:=hx556_1
 have hw556_0:=hx556_0
 cases e556
 replace hx556_0:=zh_ HB hx556_0
 replace hx556_1:=zh_ HB hx556_1
 replace hx556_2:=zh_ HB hx556_2
 replace hx556_3:=zh_ HB hx556_3
 replace p556:=eq_true p556
 replace q556:=eq_true q556
 have p557:0<=(a3:Int):=oz_
 have q557:a3<(l0.length:Int):=oz_
 obtain ⟨ad557,e557,hx557_0,hx557_1,hx557_2,hx557_3⟩:=at_T31 HR0.out a3 p557 q557
 have hw557_3:=hx557_3
 have hw557_2:=hx557_2
 have hw557_1:=hx557_1
 have hw557_0:=hx557_0
 obtain rfl:ad556=ad557:=(by injection e557)
 replace hx557_0:=zh_ HB hx557_0
 replace hx557_1:=zh_ HB hx557_1
 replace hx557_2:=zh_ HB hx557_2
 replace hx557_3:=zh_ HB hx557_3
 replace p557:=eq_true p557
 replace q557:=eq_true q557
 refine start_ (n:=12) (S:=fun w'=>w'.cell? (ad556.add ((a2).toNat * 4))=some (.int .i64 ((rd_T31 l0 a2).f0))/\w'.cell? ⟨(ad556.add ((a2).toNat * 4)).block,(ad556.add ((a2).toNat * 4)).off + 1,none⟩=some (.int .i64 ((rd_T31 l0 a2).f1))/\w'.cell? ⟨(ad556.add ((a2).toNat * 4)).block,(ad556.add ((a2).toNat * 4)).off + 2,none⟩=some (.int .i64 ((rd_T31 l0 a2).f2))/\w'.cell? ⟨(ad556.add ((a2).toNat * 4)).block,(ad556.add ((a2).toNat * 4)).off + 3,none⟩=some (.int .i64 ((rd_T31 l0 a2).f3))/\w'.cell? (ad556.add ((a3).toNat * 4))=some (.int .i64 ((rd_T31 l0 a3).f0))/\w'.cell? ⟨(ad556.add ((a3).toNat * 4)).block,(ad556.add ((a3).toNat * 4)).off + 1,none⟩=some (.int .i64 ((rd_T31 l0 a3).f1))/\w'.cell? ⟨(ad556.add ((a3).toNat * 4)).block,(ad556.add ((a3).toNat * 4)).off + 2,none⟩=some (.int .i64 ((rd_T31 l0 a3).f2))/\w'.cell? ⟨(ad556.add ((a3).toNat * 4)).block,(ad556.add ((a3).toNat * 4)).off + 3,none⟩=some (.int .i64 ((rd_T31 l0 a3).f3))) (ds:=[]) #[false,false,false,false,false,false,false,false,false,false,false,false] (by kernel_rfl) rfl rfl ⟨(zq_ HB hw556_0),(zq_ HB hw556_1),(zq_ HB hw556_2),(zq_ HB hw556_3),(zq_ HB hw557_0),(zq_ HB hw557_1),(zq_ HB hw557_2),(zq_ HB hw557_3)⟩ (fun hHeld=>?_);refine with_tabW spec_l3Gap.tab1 spec_l3Gap.bits1 (fun HT_ HW_=>?_)
 generalize w.drew=w42 at HB hx556_0 hx556_1 hx556_2 hx556_3 hx557_0 hx557_1 hx557_2 hx557_3 hHeld ⊢
 refine pu_ 0 11 ?_
 refine pu_ 1 12 ?_
 refine pu_ 2 13 ?_
 refine pu_ 4 15 ?_
 refine pu_ 5 16 ?_
 refine pu_ 6 17 ?_
 refine tk_ 3 14 hHeld ?_
 refine tk_ 7 18 hHeld ?_
 refine join_ (σ:=Nat × Nat) 2 #[true,true,true,true,true,true,true,true,true,true,false,false] (fun s_=>[(9,.pointer (some ⟨s_.1,0,none⟩)),(10,.pointer (some ⟨s_.2,0,none⟩))]) (fun s_ w'=>(w'.cell? (ad556.add ((a2).toNat * 4))=some (.int .i64 ((rd_T31 l0 a2).f0))/\w'.cell? ⟨(ad556.add ((a2).toNat * 4)).block,(ad556.add ((a2).toNat * 4)).off + 1,none⟩=some (.int .i64 ((rd_T31 l0 a2).f1))/\w'.cell? ⟨(ad556.add ((a2).toNat * 4)).block,(ad556.add ((a2).toNat * 4)).off + 2,none⟩=some (.int .i64 ((rd_T31 l0 a2).f2))/\w'.cell? ⟨(ad556.add ((a2).toNat * 4)).block,(ad556.add ((a2).toNat * 4)).off + 3,none⟩=some (.int .i64 ((rd_T31 l0 a2).f3))/\w'.cell? (ad556.add ((a3).toNat * 4))=some (.int .i64 ((rd_T31 l0 a3).f0))/\w'.cell? ⟨(ad556.add ((a3).toNat * 4)).block,(ad556.add ((a3).toNat * 4)).off + 1,none⟩=some (.int .i64 ((rd_T31 l0 a3).f1))/\w'.cell? ⟨(ad556.add ((a3).toNat * 4)).block,(ad556.add ((a3).toNat * 4)).off + 2,none⟩=some (.int .i64 ((rd_T31 l0 a3).f2))/\w'.cell? ⟨(ad556.add ((a3).toNat * 4)).block,(ad556.add ((a3).toNat * 4)).off + 3,none⟩=some (.int .i64 ((rd_T31 l0 a3).f3)))/\(w'.heap[s_.1]?=some (.cells #[.int .i64 0,.int .i64 0,.int .i64 0,.int .i64 0] 31 (0,0)))/\(w'.heap[s_.2]?=some (.cells #[.int .i64 0,.int .i64 0,.int .i64 0,.int .i64 0] 31 (0,0)))/\(w.heap.size<=s_.1)/\(w.heap.size<=s_.1)/\(s_.2≠s_.1)/\(s_.1≠s_.2)/\(w.heap.size<=s_.2)/\(w.heap.size<=s_.2)/\(Below w.heap.size w w')) ?_ ?_
 rotate_left
 ·intro hCont
  refine two_ (i:=8) (j:=9) (Ni:=some 9) (Nj:=some 10) #[true,true,true,true,true,true,true,true,true,false,false,false] #[true,true,true,true,true,true,true,true,false,true,false,false] rfl rfl rfl rfl (two_of HT_.out (by kernel_rfl)) (by decide) (by decide) (fun K hK=>?_) (fun K hK=>?_)
  ·skip
   refine box_step ?hg (N:=9) ?hd (cs:=#[.int .i64 0,.int .i64 0,.int .i64 0,.int .i64 0]) (t:=31) ?hr ?_;(case hd=>rfl);(case hg=>rfl);(case hr=>(go_simp;done))
   intro gb558 hg w43 hbox hb
   have n0_:=zb1 hb
   have n1_:=ak_ (hbox)
   have n2_:=ak_ ((by rw [hg];exact (below_size zb):w.heap.size<=gb558))
   have n3_:=ak_ ((by rw [hg];exact (below_size zb):w.heap.size<=gb558))
   clear HB
   have HB:=n0_
   have BK558:=n1_
   have GW558:=n2_
   have GE558:=n3_
   clear n0_ n1_ n2_ n3_
   clear hb hbox hg
   refine hK.out _ _ ⟨(zq_ HB hw556_0),(zq_ HB hw556_1),(zq_ HB hw556_2),(zq_ HB hw556_3),(zq_ HB hw557_0),(zq_ HB hw557_1),(zq_ HB hw557_2),(zq_ HB hw557_3)⟩ (fun hHeld=>?_)
   clear hK K
   refine norm_ (a':=?_) ?_ ?_
   rotate_left
   ·show Act.put _ (some 9) _=_
    simp only [Act.put,List.setIfInBounds_toArray,List.set_cons_zero,List.set_cons_succ,i64_w,i32_w]
    rfl
   refine one_ (i:=9) (N:=some 10) #[true,true,true,true,true,true,true,true,true,true,false,false] rfl rfl (one_of HT_.out (by kernel_rfl)) (by decide) (fun K hK=>?_)
   refine box_step ?hg (N:=10) ?hd (cs:=#[.int .i64 0,.int .i64 0,.int .i64 0,.int .i64 0]) (t:=31) ?hr ?_;(case hd=>rfl);(case hg=>rfl);(case hr=>(go_simp;done))
   intro gb559 hg w44 hbox hb
   have n0_:=ak_ (blk_below (g:=gb558) (o:=.cells #[.int .i64 0,.int .i64 0,.int .i64 0,.int .i64 0] 31 (0,0)) zz10 hb)
   have n1_:=ak_ (below_step zz43 hb)
   have n2_:=ak_ (hbox)
   have n3_:=ak_ ((by rw [hg];exact (below_size zz43):w.heap.size<=gb559))
   have n4_:=ak_ ((by rw [hg];exact (below_size zz43):w.heap.size<=gb559))
   have n5_:=ak_ ((by rw [hg];exact Nat.ne_of_lt (blk_lt (g:=gb558) (o:=.cells #[.int .i64 0,.int .i64 0,.int .i64 0,.int .i64 0] 31 (0,0)) zz10):gb558≠gb559))
   have n6_:=ak_ ((by rw [hg];exact Nat.ne_of_gt (blk_lt (g:=gb558) (o:=.cells #[.int .i64 0,.int .i64 0,.int .i64 0,.int .i64 0] 31 (0,0)) zz10):gb559≠gb558))
   clear BK558
   clear HB
   have BK558:=n0_
   have HB:=n1_
   have BK559:=n2_
   have GW559:=n3_
   have GE559:=n4_
   have NB558_559:=n5_
   have NB559_558:=n6_
   clear n0_ n1_ n2_ n3_ n4_ n5_ n6_
   clear hb hbox hg
   refine hK.out _ _ ⟨(zq_ HB hw556_0),(zq_ HB hw556_1),(zq_ HB hw556_2),(zq_ HB hw556_3),(zq_ HB hw557_0),(zq_ HB hw557_1),(zq_ HB hw557_2),(zq_ HB hw557_3)⟩ (fun hHeld=>?_)
   clear hK K
   refine norm_ (a':=?_) ?_ ?_
   rotate_left
   ·show Act.put _ (some 10) _=_
    simp only [Act.put,List.setIfInBounds_toArray,List.set_cons_zero,List.set_cons_succ,i64_w,i32_w]
    rfl
   exact norm_ zz12 (hCont (gb558,gb559) _ ⟨hHeld,zz10,zz11,GW558.out,GE558.out,NB559_558.out,NB558_559.out,GW559.out,GE559.out,zz62⟩)
  ·skip
   refine box_step ?hg (N:=10) ?hd (cs:=#[.int .i64 0,.int .i64 0,.int .i64 0,.int .i64 0]) (t:=31) ?hr ?_;(case hd=>rfl);(case hg=>rfl);(case hr=>(go_simp;done))
   intro gb559 hg w43 hbox hb
   have n0_:=zb1 hb
   have n1_:=ak_ (hbox)
   have n2_:=ak_ ((by rw [hg];exact (below_size zb):w.heap.size<=gb559))
   have n3_:=ak_ ((by rw [hg];exact (below_size zb):w.heap.size<=gb559))
   clear HB
   have HB:=n0_
   have BK559:=n1_
   have GW559:=n2_
   have GE559:=n3_
   clear n0_ n1_ n2_ n3_
   clear hb hbox hg
   refine hK.out _ _ ⟨(zq_ HB hw556_0),(zq_ HB hw556_1),(zq_ HB hw556_2),(zq_ HB hw556_3),(zq_ HB hw557_0),(zq_ HB hw557_1),(zq_ HB hw557_2),(zq_ HB hw557_3)⟩ (fun hHeld=>?_)
   clear hK K
   refine norm_ (a':=?_) ?_ ?_
   rotate_left
   ·show Act.put _ (some 10) _=_
    simp only [Act.put,List.setIfInBounds_toArray,List.set_cons_zero,List.set_cons_succ,i64_w,i32_w]
    rfl
   refine one_ (i:=8) (N:=some 9) #[true,true,true,true,true,true,true,true,true,true,false,false] rfl rfl (one_of HT_.out (by kernel_rfl)) (by decide) (fun K hK=>?_)
   refine box_step ?hg (N:=9) ?hd (cs:=#[.int .i64 0,.int .i64 0,.int .i64 0,.int .i64 0]) (t:=31) ?hr ?_;(case hd=>rfl);(case hg=>rfl);(case hr=>(go_simp;done))
   intro gb558 hg w44 hbox hb
   have n0_:=ak_ (blk_below (g:=gb559) (o:=.cells #[.int .i64 0,.int .i64 0,.int .i64 0,.int .i64 0] 31 (0,0)) zz11 hb)
   have n1_:=ak_ (below_step zz44 hb)
   have n2_:=ak_ (hbox)
   have n3_:=ak_ ((by rw [hg];exact (below_size zz44):w.heap.size<=gb558))
   have n4_:=ak_ ((by rw [hg];exact (below_size zz44):w.heap.size<=gb558))
   have n5_:=ak_ ((by rw [hg];exact Nat.ne_of_lt (blk_lt (g:=gb559) (o:=.cells #[.int .i64 0,.int .i64 0,.int .i64 0,.int .i64 0] 31 (0,0)) zz11):gb559≠gb558))
   have n6_:=ak_ ((by rw [hg];exact Nat.ne_of_gt (blk_lt (g:=gb559) (o:=.cells #[.int .i64 0,.int .i64 0,.int .i64 0,.int .i64 0] 31 (0,0)) zz11):gb558≠gb559))
   clear BK559
   clear HB
   have BK559:=n0_
   have HB:=n1_
   have BK558:=n2_
   have GW558:=n3_
   have GE558:=n4_
   have NB559_558:=n5_
   have NB558_559:=n6_
   clear n0_ n1_ n2_ n3_ n4_ n5_ n6_
   clear hb hbox hg
   refine hK.out _ _ ⟨(zq_ HB hw556_0),(zq_ HB hw556_1),(zq_ HB hw556_2),(zq_ HB hw556_3),(zq_ HB hw557_0),(zq_ HB hw557_1),(zq_ HB hw557_2),(zq_ HB hw557_3)⟩ (fun hHeld=>?_)
   clear hK K
   refine norm_ (a':=?_) ?_ ?_
   rotate_left
   ·show Act.put _ (some 9) _=_
    simp only [Act.put,List.setIfInBounds_toArray,List.set_cons_zero,List.set_cons_succ,i64_w,i32_w]
    rfl
   exact norm_ zz12 (hCont (gb558,gb559) _ ⟨hHeld,zz10,zz11,GW558.out,GE558.out,NB559_558.out,NB558_559.out,GW559.out,GE559.out,zz79⟩)
 rintro ⟨gb558,gb559⟩ w45 ⟨hS_,h0_,h1_,h2_,h3_,h4_,h5_,h6_,h7_,h8_⟩
 have n0_:Aside0 (w45.heap[gb558]?=some (.cells #[.int .i64 0,.int .i64 0,.int .i64 0,.int .i64 0] 31 (0,0))):=⟨h0_⟩
 have n1_:Aside0 (w45.heap[gb559]?=some (.cells #[.int .i64 0,.int .i64 0,.int .i64 0,.int .i64 0] 31 (0,0))):=⟨h1_⟩
 have n2_:Aside0 (w.heap.size<=gb558):=⟨h2_⟩
 have n3_:Aside0 (w.heap.size<=gb558):=⟨h3_⟩
 have n4_:Aside0 (gb559≠gb558):=⟨h4_⟩
 have n5_:Aside0 (gb558≠gb559):=⟨h5_⟩
 have n6_:Aside0 (w.heap.size<=gb559):=⟨h6_⟩
 have n7_:Aside0 (w.heap.size<=gb559):=⟨h7_⟩
 have n8_:Aside0 (Below w.heap.size w w45):=⟨h8_⟩
 clear HB
 clear h0_ h1_ h2_ h3_ h4_ h5_ h6_ h7_ h8_
 have BK558:=n0_
 have BK559:=n1_
 have GW558:=n2_
 have GE558:=n3_
 have NB559_558:=n4_
 have NB558_559:=n5_
 have GW559:=n6_
 have GE559:=n7_
 have HB:=n8_
 clear n0_ n1_ n2_ n3_ n4_ n5_ n6_ n7_ n8_
 have hHeld:w45.cell? (ad556.add ((a2).toNat * 4))=some (.int .i64 ((rd_T31 l0 a2).f0))/\w45.cell? ⟨(ad556.add ((a2).toNat * 4)).block,(ad556.add ((a2).toNat * 4)).off + 1,none⟩=some (.int .i64 ((rd_T31 l0 a2).f1))/\w45.cell? ⟨(ad556.add ((a2).toNat * 4)).block,(ad556.add ((a2).toNat * 4)).off + 2,none⟩=some (.int .i64 ((rd_T31 l0 a2).f2))/\w45.cell? ⟨(ad556.add ((a2).toNat * 4)).block,(ad556.add ((a2).toNat * 4)).off + 3,none⟩=some (.int .i64 ((rd_T31 l0 a2).f3))/\w45.cell? (ad556.add ((a3).toNat * 4))=some (.int .i64 ((rd_T31 l0 a3).f0))/\w45.cell? ⟨(ad556.add ((a3).toNat * 4)).block,(ad556.add ((a3).toNat * 4)).off + 1,none⟩=some (.int .i64 ((rd_T31 l0 a3).f1))/\w45.cell? ⟨(ad556.add ((a3).toNat * 4)).block,(ad556.add ((a3).toNat * 4)).off + 2,none⟩=some (.int .i64 ((rd_T31 l0 a3).f2))/\w45.cell? ⟨(ad556.add ((a3).toNat * 4)).block,(ad556.add ((a3).toNat * 4)).off + 3,none⟩=some (.int .i64 ((rd_T31 l0 a3).f3)):=hS_
 refine norm_ (a':=?_) ?_ ?_
 rotate_left
 ·simp only [putAll,Act.put,List.setIfInBounds_toArray,List.set_cons_zero,List.set_cons_succ]
  rfl
 refine one_ (i:=10) (N:=none) #[true,true,true,true,true,true,true,true,true,true,true,false] rfl rfl (one_of HT_.out (by kernel_rfl)) (by decide) (fun K hK=>?_)
 have hs46:w45.cell? ⟨gb558,0,none⟩=some (.int .i64 0):=(blk_cell BK558.out 0).trans rfl
 have hfs46:=blk_frozen BK558.out 0
 have hns46_1:=NB559_558.out
 have hms46_1:=NB558_559.out
 have hs47:w45.cell? ⟨gb558,1,none⟩=some (.int .i64 0):=(blk_cell BK558.out 1).trans rfl
 have hfs47:=blk_frozen BK558.out 1
 have hns47_1:=NB559_558.out
 have hms47_1:=NB558_559.out
 have hs48:w45.cell? ⟨gb558,2,none⟩=some (.int .i64 0):=(blk_cell BK558.out 2).trans rfl
 have hfs48:=blk_frozen BK558.out 2
 have hns48_1:=NB559_558.out
 have hms48_1:=NB558_559.out
 have hs49:w45.cell? ⟨gb558,3,none⟩=some (.int .i64 0):=(blk_cell BK558.out 3).trans rfl
 have hfs49:=blk_frozen BK558.out 3
 have hns49_1:=NB559_558.out
 have hms49_1:=NB558_559.out
 refine skip_ (w1:=?_) (by rfl) rfl ?_ ?_
 rotate_left
 ·go_simp
  rfl
 refine hK.out _ _ ⟨((cell_far (p:=⟨gb558,_,none⟩) zz16 _).trans (((cell_far (p:=⟨gb558,_,none⟩) zz16 _).trans (((cell_far (p:=⟨gb558,_,none⟩) zz16 _).trans (((cell_far (p:=⟨gb558,_,none⟩) zz16 _).trans (hHeld.1)))))))),((cell_far (p:=⟨gb558,_,none⟩) zz17 _).trans (((cell_far (p:=⟨gb558,_,none⟩) zz17 _).trans (((cell_far (p:=⟨gb558,_,none⟩) zz17 _).trans (((cell_far (p:=⟨gb558,_,none⟩) zz17 _).trans (hHeld.2.1)))))))),((cell_far (p:=⟨gb558,_,none⟩) zz18 _).trans (((cell_far (p:=⟨gb558,_,none⟩) zz18 _).trans (((cell_far (p:=⟨gb558,_,none⟩) zz18 _).trans (((cell_far (p:=⟨gb558,_,none⟩) zz18 _).trans (hHeld.2.2.1)))))))),((cell_far (p:=⟨gb558,_,none⟩) zz19 _).trans (((cell_far (p:=⟨gb558,_,none⟩) zz19 _).trans (((cell_far (p:=⟨gb558,_,none⟩) zz19 _).trans (((cell_far (p:=⟨gb558,_,none⟩) zz19 _).trans (hHeld.2.2.2.1)))))))),((cell_far (p:=⟨gb558,_,none⟩) zz20 _).trans (((cell_far (p:=⟨gb558,_,none⟩) zz20 _).trans (((cell_far (p:=⟨gb558,_,none⟩) zz20 _).trans (((cell_far (p:=⟨gb558,_,none⟩) zz20 _).trans (hHeld.2.2.2.2.1)))))))),((cell_far (p:=⟨gb558,_,none⟩) zz21 _).trans (((cell_far (p:=⟨gb558,_,none⟩) zz21 _).trans (((cell_far (p:=⟨gb558,_,none⟩) zz21 _).trans (((cell_far (p:=⟨gb558,_,none⟩) zz21 _).trans (hHeld.2.2.2.2.2.1)))))))),((cell_far (p:=⟨gb558,_,none⟩) zz22 _).trans (((cell_far (p:=⟨gb558,_,none⟩) zz22 _).trans (((cell_far (p:=⟨gb558,_,none⟩) zz22 _).trans (((cell_far (p:=⟨gb558,_,none⟩) zz22 _).trans (hHeld.2.2.2.2.2.2.1)))))))),((cell_far (p:=⟨gb558,_,none⟩) zz23 _).trans (((cell_far (p:=⟨gb558,_,none⟩) zz23 _).trans (((cell_far (p:=⟨gb558,_,none⟩) zz23 _).trans (((cell_far (p:=⟨gb558,_,none⟩) zz23 _).trans (hHeld.2.2.2.2.2.2.2))))))))⟩ (fun hHeld=>?_)
 clear hK K
 refine one_ (i:=11) (N:=none) #[true,true,true,true,true,true,true,true,true,true,true,true] rfl rfl (one_of HT_.out (by kernel_rfl)) (by decide) (fun K hK=>?_)
 have hs50:w45.cell? ⟨gb559,0,none⟩=some (.int .i64 0):=(blk_cell BK559.out 0).trans rfl
 have hfs50:=blk_frozen BK559.out 0
 have hns50_0:=NB558_559.out
 have hms50_0:=NB559_558.out
 have hs51:w45.cell? ⟨gb559,1,none⟩=some (.int .i64 0):=(blk_cell BK559.out 1).trans rfl
 have hfs51:=blk_frozen BK559.out 1
 have hns51_0:=NB558_559.out
 have hms51_0:=NB559_558.out
 have hs52:w45.cell? ⟨gb559,2,none⟩=some (.int .i64 0):=(blk_cell BK559.out 2).trans rfl
 have hfs52:=blk_frozen BK559.out 2
 have hns52_0:=NB558_559.out
 have hms52_0:=NB559_558.out
 have hs53:w45.cell? ⟨gb559,3,none⟩=some (.int .i64 0):=(blk_cell BK559.out 3).trans rfl
 have hfs53:=blk_frozen BK559.out 3
 have hns53_0:=NB558_559.out
 have hms53_0:=NB559_558.out
 refine skip_ (w1:=?_) (by rfl) rfl ?_ ?_
 rotate_left
 ·go_simp
  rfl
 refine hK.out _ _ ⟨((cell_far (p:=⟨gb559,_,none⟩) zz24 _).trans (((cell_far (p:=⟨gb559,_,none⟩) zz24 _).trans (((cell_far (p:=⟨gb559,_,none⟩) zz24 _).trans (((cell_far (p:=⟨gb559,_,none⟩) zz24 _).trans (hHeld.1)))))))),((cell_far (p:=⟨gb559,_,none⟩) zz25 _).trans (((cell_far (p:=⟨gb559,_,none⟩) zz25 _).trans (((cell_far (p:=⟨gb559,_,none⟩) zz25 _).trans (((cell_far (p:=⟨gb559,_,none⟩) zz25 _).trans (hHeld.2.1)))))))),((cell_far (p:=⟨gb559,_,none⟩) zz26 _).trans (((cell_far (p:=⟨gb559,_,none⟩) zz26 _).trans (((cell_far (p:=⟨gb559,_,none⟩) zz26 _).trans (((cell_far (p:=⟨gb559,_,none⟩) zz26 _).trans (hHeld.2.2.1)))))))),((cell_far (p:=⟨gb559,_,none⟩) zz27 _).trans (((cell_far (p:=⟨gb559,_,none⟩) zz27 _).trans (((cell_far (p:=⟨gb559,_,none⟩) zz27 _).trans (((cell_far (p:=⟨gb559,_,none⟩) zz27 _).trans (hHeld.2.2.2.1)))))))),((cell_far (p:=⟨gb559,_,none⟩) zz28 _).trans (((cell_far (p:=⟨gb559,_,none⟩) zz28 _).trans (((cell_far (p:=⟨gb559,_,none⟩) zz28 _).trans (((cell_far (p:=⟨gb559,_,none⟩) zz28 _).trans (hHeld.2.2.2.2.1)))))))),((cell_far (p:=⟨gb559,_,none⟩) zz29 _).trans (((cell_far (p:=⟨gb559,_,none⟩) zz29 _).trans (((cell_far (p:=⟨gb559,_,none⟩) zz29 _).trans (((cell_far (p:=⟨gb559,_,none⟩) zz29 _).trans (hHeld.2.2.2.2.2.1)))))))),((cell_far (p:=⟨gb559,_,none⟩) zz30 _).trans (((cell_far (p:=⟨gb559,_,none⟩) zz30 _).trans (((cell_far (p:=⟨gb559,_,none⟩) zz30 _).trans (((cell_far (p:=⟨gb559,_,none⟩) zz30 _).trans (hHeld.2.2.2.2.2.2.1)))))))),((cell_far (p:=⟨gb559,_,none⟩) zz31 _).trans (((cell_far (p:=⟨gb559,_,none⟩) zz31 _).trans (((cell_far (p:=⟨gb559,_,none⟩) zz31 _).trans (((cell_far (p:=⟨gb559,_,none⟩) zz31 _).trans (hHeld.2.2.2.2.2.2.2))))))))⟩ (fun hHeld=>?_)
 clear hK K
 refine done_ (done_of HT_.out (by kernel_rfl)) ?_
 have hnb54:=NB558_559.out
 have hnc54:=NB559_558.out
 obtain ⟨hcz55_0,hcz55_1,hcz55_2,hcz55_3,hfz55_0,hfz55_1,hfz55_2,hfz55_3⟩:=zk4 BK558.out
 obtain ⟨hcz56_0,hcz56_1,hcz56_2,hcz56_3,hfz56_0,hfz56_1,hfz56_2,hfz56_3⟩:=zk4 BK559.out
 try go_wp2
 go_ret
 exact ⟨zz0,zz62⟩
