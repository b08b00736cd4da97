-- Words and walks of this claim.
import Derived.Test.YtkolecmpncaooaaXFnLongestFirstx21
namespace Go.Proofs.Ytkolecmpncaooaa.XFnLongestFirst
set_option maxRecDepth 100000
set_option maxHeartbeats 8000000
open Go.RowKit Go.Proofs.YtkolecmpncaooaaW.PrintWords Go.Proofs.YtkolecmpncaooaaW.PrintLast Go.Proofs.YtkolecmpncaooaaW.PrintMore
attribute [local go_sem] max2_int min2_int max_two min_two max_three min_three max_four min_four
attribute [local go_sem] idxA_51_0 idxA_51_1 fldS_45_0 fldS_45_1 fldS_45_2 fldS_96_0 fldS_96_1 fldS_96_2
set_option linter.unusedVariables false
set_option linter.unusedSimpArgs false
def spec_LeastLoad.f (k:Nat) (l0:List (S31)) (a1:Int):Option (Int × Bool):=(spec_l7Good.f k l0 a1 (([]:List (S51)))).bind fun t539=>(if t539=true then (if 0<=a1 then (if (a1:Int).toNat<=35184372088832 then ((spec_l7Load.f k l0 (List.replicate (a1:Int).toNat 0) 0).bind fun t543=>(some (t543,true))) else (none)) else (none)) else (some (0,false)))
theorem spec_LeastLoad.calls (k:Nat) (A0:Option Addr) (c0:Nat) (l0:List (S31)) (a1:Int) (r1:Int) (r2:Bool) (w:World) (hr0:Kd.C k31 w A0 l0.length l0) (hc0:l0.length<=c0) (h:spec_LeastLoad.f k l0 a1=some (r1,r2)) :
  Calls Try.prog 15 #[.slice A0 l0.length c0,.int .i64 a1] w fun e w'=>e=.returned (.tuple #[.int .i64 r1,.bool r2])/\Below w.heap.size w w':=by
 have HR0:=ak_ hr0
 have HC0:=ak_ hc0
 clear hr0 hc0
 have HB:=ak_ (Below.refl w.heap.size w)
 have H:((spec_l7Good.f k l0 a1 (([]:List (S51)))).bind fun t539=>(if t539=true then (if 0<=a1 then (if (a1:Int).toNat<=35184372088832 then ((spec_l7Load.f k l0 (List.replicate (a1:Int).toNat 0) 0).bind fun t543=>(some (t543,true))) else (none)) else (none)) else (some (0,false))))=some (r1,r2):=h
 clear h
 generalize hy536:(([]:List (S51)):List (S51))=y536 at H
 have Ny536:=ak_ hy536.symm
 clear hy536
 replace H:=gT H;obtain ⟨t539,A3,H⟩:=H
 replace H:=gNB H;rcases H with ⟨rfl,H⟩ | ⟨rfl,H⟩
 ·simp only [Option.some.injEq,Prod.mk.injEq] at H
  obtain ⟨rfl,rfl⟩:=H
  go_enter Try.func15,Try.ntmps15
  go_wp2_with (first|((with_reducible refine gate_dst (N:=8) rfl ?_);refine Kd.R_lit k51 _ 51 ?hg (N:=8) ?hd (xs:=([]:List (S51))) (inner:=[]) (ok:=fun _=>True) (okp:=fun _=>True) ?hr ?hp (fun _ hk=>hk) trivial (Below.refl _ _) (Nat.le_refl _) (by simp) ?_;(case hd=>rfl);(case hg=>rfl);(case hr=>(go_simp;done));(case hp=>exact (Reps.none _ _));intro v537 w16 ho17 hb hg_ hnew_;clear hg_ hnew_;(rw [<-Ny536.out] at ho17);have HO538:=ak_ (Kd.R_lower ho17 (below_size zb));replace HB:=zb1 hb;clear hb ho17;obtain ⟨Ao18,co18,eo18⟩:=Kd.R_slice HO538.out;subst eo18)|((with_reducible refine gate_callee (f:=39) rfl ?_);refine zgo 9 Try.func39 #[.slice A0 l0.length c0,.int .i64 a1,.slice Ao18 y536.length co18] ?_;(with_reducible refine (spec_l7Good.calls k _ _ l0 a1 _ _ y536 false _ ?side1 ?side2 ?side3 ?side4 A3.out).mono ?_);(case side1=>exact zC (Kd.C_below HR0.out HB.out));(case side2=>exact HC0.out);(case side3=>exact zC ((Kd.R_reads' HO538.out).2.2));(case side4=>exact (Kd.R_reads' HO538.out).2.1);rintro e w19 ⟨rfl,hb⟩;refine ⟨_,rfl,?_⟩;replace HO538:=zRb HO538 hb;replace HB:=zb1 hb;(try clear hb)))
  go_ret2
  exact ⟨zz0,zb⟩
 replace H:=gE H;obtain ⟨c5b0,c5b1,H⟩:=H
 replace H:=gE H;obtain ⟨c6b0,c6b1,H⟩:=H
 generalize hy540:(List.replicate (a1:Int).toNat 0:List Int)=y540 at H
 have Ny540:=ak_ hy540.symm
 clear hy540
 replace H:=gT H;obtain ⟨t543,A7,H⟩:=H
 simp only [Option.some.injEq,Prod.mk.injEq] at H
 obtain ⟨rfl,rfl⟩:=H
 go_enter Try.func15,Try.ntmps15
 go_wp2_with (first|((with_reducible refine gate_dst (N:=8) rfl ?_);refine Kd.R_lit k51 _ 51 ?hg (N:=8) ?hd (xs:=([]:List (S51))) (inner:=[]) (ok:=fun _=>True) (okp:=fun _=>True) ?hr ?hp (fun _ hk=>hk) trivial (Below.refl _ _) (Nat.le_refl _) (by simp) ?_;(case hd=>rfl);(case hg=>rfl);(case hr=>(go_simp;done));(case hp=>exact (Reps.none _ _));intro v537 w8 ho9 hb hg_ hnew_;clear hg_ hnew_;(rw [<-Ny536.out] at ho9);have HO538:=ak_ (Kd.R_lower ho9 (below_size zb));replace HB:=zb1 hb;clear hb ho9;obtain ⟨Ao10,co10,eo10⟩:=Kd.R_slice HO538.out;subst eo10)|((with_reducible refine gate_callee (f:=39) rfl ?_);refine zgo 9 Try.func39 #[.slice A0 l0.length c0,.int .i64 a1,.slice Ao10 y536.length co10] ?_;(with_reducible refine (spec_l7Good.calls k _ _ l0 a1 _ _ y536 true _ ?side1 ?side2 ?side3 ?side4 A3.out).mono ?_);(case side1=>exact zC (Kd.C_below HR0.out HB.out));(case side2=>exact HC0.out);(case side3=>exact zC ((Kd.R_reads' HO538.out).2.2));(case side4=>exact (Kd.R_reads' HO538.out).2.1);rintro e w11 ⟨rfl,hb⟩;refine ⟨_,rfl,?_⟩;replace HO538:=zRb HO538 hb;replace HB:=zb1 hb;(try clear hb))|((with_reducible refine gate_dst (N:=13) rfl ?_);refine Kd.R_make (Kd.int .i64) _ 3 rfl (N:=13) rfl 49 _ _ rfl a1 rfl rfl Try.underlying49 (.int .i64 0) 8 info3 rfl (by decide) (by omega) 0 (ok:=fun _=>True) (okp:=fun _=>True) rfl (fun _ hk=>hk) trivial (oz_) (Nat.le_trans (Nat.mul_le_mul_right _ (oz_:a1.toNat<=35184372088832)) (by omega)) (Below.refl _ _) (Nat.le_refl _) ?_;intro v541 w12 ho13 hb hg_ hnew_;clear hg_ hnew_;(rw [<-Ny540.out] at ho13);replace HO538:=zRb HO538 hb;have HO542:=ak_ (Kd.R_lower ho13 (below_size zb));replace HB:=zb1 hb;clear hb ho13;obtain ⟨Ao14,co14,eo14⟩:=Kd.R_slice HO542.out;subst eo14)|((with_reducible refine gate_callee (f:=44) rfl ?_);refine zgo 14 Try.func44 #[.slice A0 l0.length c0,.slice Ao14 y540.length co14,.int .i64 0] ?_;(with_reducible refine (spec_l7Load.calls k _ _ l0 _ _ y540 0 t543 _ ?side1 ?side2 ?side3 ?side4 A7.out).mono ?_);(case side1=>exact zC (Kd.C_below HR0.out HB.out));(case side2=>exact HC0.out);(case side3=>exact zC ((Kd.R_reads' HO542.out).2.2));(case side4=>exact (Kd.R_reads' HO542.out).2.1);rintro e w15 ⟨rfl,hb⟩;refine ⟨_,rfl,?_⟩;replace HO538:=zRb HO538 hb;replace HO542:=zRb HO542 hb;replace HB:=zb1 hb;(try clear hb)))
 go_ret2
 exact ⟨zz0,zb⟩
def impl_difference.f (a0_0:Int) (a0_1:Int) (a0_2:Int) (a0_3:Int) (a1_0:Int) (a1_1:Int) (a1_2:Int) (a1_3:Int) (a2:Int):Option (Int):=if a2=1 then (some (wrap64 (a0_2 - a1_2))) else (if a2=2 then (some (wrap64 (a0_0 - a1_0))) else (if a2=3 then (some (wrap64 ((wrap64 (a0_0 * a1_1)) - (wrap64 (a1_0 * a0_1))))) else (some (wrap64 (a0_3 - a1_3)))))
theorem impl_difference.calls (a0_0:Int) (a0_1:Int) (a0_2:Int) (a0_3:Int) (a1_0:Int) (a1_1:Int) (a1_2:Int) (a1_3:Int) (a2:Int) (r:Int) (w:World) (h:impl_difference.f a0_0 a0_1 a0_2 a0_3 a1_0 a1_1 a1_2 a1_3 a2=some r) :
  Calls Try.prog 87 #[.agg #[.int .i64 a0_0,.int .i64 a0_1,.int .i64 a0_2,.int .i64 a0_3],.agg #[.int .i64 a1_0,.int .i64 a1_1,.int .i64 a1_2,.int .i64 a1_3],.int .i64 a2] w fun e w'=>e=.returned (.int .i64 r)/\Below w.heap.size w w':=by
 have hu31:=Try.underlying31
 have HB:=ak_ (Below.refl w.heap.size w)
 have H:(if a2=1 then (some (wrap64 (a0_2 - a1_2))) else (if a2=2 then (some (wrap64 (a0_0 - a1_0))) else (if a2=3 then (some (wrap64 ((wrap64 (a0_0 * a1_1)) - (wrap64 (a1_0 * a0_1))))) else (some (wrap64 (a0_3 - a1_3))))))=some r:=h
 clear h
 replace H:=gP H;rcases H with ⟨c4,H⟩ | ⟨c4,H⟩
 ·have c4b0:(a2 == 1)=true:=beq_iff_eq.mpr c4
  have c4b1:(a2 != 1)=false:=bne_eq_false_iff_eq.mpr c4
  clear c4
  obtain rfl:=oi_ H
  go_enter Try.func87,Try.ntmps87
  go_wp2_with (first|((with_reducible refine gate_dst (N:=3) rfl ?_);refine box_event ?hg (N:=3) ?hd (cs:=#[.int .i64 a0_0,.int .i64 a0_1,.int .i64 a0_2,.int .i64 a0_3]) (t:=31) ?hr ?_;(case hd=>rfl);(case hg=>rfl);(case hr=>(go_simp;done));intro gb544 hg w5 hbox hb;have BK544:=ak_ (hbox);have GW544:=ak_ ((by rw [hg];exact (below_size zb):w.heap.size<=gb544));have GE544:=ak_ ((by rw [hg];exact (below_size zb):w.heap.size<=gb544));replace HB:=zb1 hb;clear hb hbox hg)|((with_reducible refine gate_dst (N:=4) rfl ?_);refine box_event ?hg (N:=4) ?hd (cs:=#[.int .i64 a1_0,.int .i64 a1_1,.int .i64 a1_2,.int .i64 a1_3]) (t:=31) ?hr ?_;(case hd=>rfl);(case hg=>rfl);(case hr=>(go_simp;done));intro gb545 hg w6 hbox hb;have BK545:=ak_ (hbox);have GW545:=ak_ ((by rw [hg];exact (below_size zz39):w.heap.size<=gb545));have GE545:=ak_ ((by rw [hg];exact (below_size zz39):w.heap.size<=gb545));replace HB:=ak_ (below_step zz39 hb);have NB544_545:=ak_ ((by rw [hg];exact Nat.ne_of_lt (blk_lt (g:=gb544) (o:=.cells #[.int .i64 a0_0,.int .i64 a0_1,.int .i64 a0_2,.int .i64 a0_3] 31 (0,0)) zz38):gb544≠gb545));have NB545_544:=ak_ ((by rw [hg];exact Nat.ne_of_gt (blk_lt (g:=gb544) (o:=.cells #[.int .i64 a0_0,.int .i64 a0_1,.int .i64 a0_2,.int .i64 a0_3] 31 (0,0)) zz38):gb545≠gb544));replace BK544:=ak_ (blk_below (g:=gb544) (o:=.cells #[.int .i64 a0_0,.int .i64 a0_1,.int .i64 a0_2,.int .i64 a0_3] 31 (0,0)) zz38 hb);clear hb hbox hg;have hnb7:=NB544_545.out;have hnc7:=NB545_544.out;obtain ⟨hcz8_0,hcz8_1,hcz8_2,hcz8_3,hfz8_0,hfz8_1,hfz8_2,hfz8_3⟩:=zk4 BK544.out;obtain ⟨hcz9_0,hcz9_1,hcz9_2,hcz9_3,hfz9_0,hfz9_1,hfz9_2,hfz9_3⟩:=zk4 BK545.out))
  go_ret
  exact ⟨zz0,zz78⟩
 have c4b0:(a2 == 1)=false:=beq_eq_false_iff_ne.mpr c4
 have c4b1:(a2 != 1)=true:=bne_iff_ne.mpr c4
 replace H:=gP H;rcases H with ⟨c10,H⟩ | ⟨c10,H⟩
 ·have c10b0:(a2 == 2)=true:=beq_iff_eq.mpr c10
  have c10b1:(a2 != 2)=false:=bne_eq_false_iff_eq.mpr c10
  clear c10
  obtain rfl:=oi_ H
  go_enter Try.func87,Try.ntmps87
  go_wp2_with (first|((with_reducible refine gate_dst (N:=3) rfl ?_);refine box_event ?hg (N:=3) ?hd (cs:=#[.int .i64 a0_0,.int .i64 a0_1,.int .i64 a0_2,.int .i64 a0_3]) (t:=31) ?hr ?_;(case hd=>rfl);(case hg=>rfl);(case hr=>(go_simp;done));intro gb544 hg w11 hbox hb;have BK544:=ak_ (hbox);have GW544:=ak_ ((by rw [hg];exact (below_size zb):w.heap.size<=gb544));have GE544:=ak_ ((by rw [hg];exact (below_size zb):w.heap.size<=gb544));replace HB:=zb1 hb;clear hb hbox hg)|((with_reducible refine gate_dst (N:=4) rfl ?_);refine box_event ?hg (N:=4) ?hd (cs:=#[.int .i64 a1_0,.int .i64 a1_1,.int .i64 a1_2,.int .i64 a1_3]) (t:=31) ?hr ?_;(case hd=>rfl);(case hg=>rfl);(case hr=>(go_simp;done));intro gb545 hg w12 hbox hb;have BK545:=ak_ (hbox);have GW545:=ak_ ((by rw [hg];exact (below_size zz39):w.heap.size<=gb545));have GE545:=ak_ ((by rw [hg];exact (below_size zz39):w.heap.size<=gb545));replace HB:=ak_ (below_step zz39 hb);have NB544_545:=ak_ ((by rw [hg];exact Nat.ne_of_lt (blk_lt (g:=gb544) (o:=.cells #[.int .i64 a0_0,.int .i64 a0_1,.int .i64 a0_2,.int .i64 a0_3] 31 (0,0)) zz38):gb544≠gb545));have NB545_544:=ak_ ((by rw [hg];exact Nat.ne_of_gt (blk_lt (g:=gb544) (o:=.cells #[.int .i64 a0_0,.int .i64 a0_1,.int .i64 a0_2,.int .i64 a0_3] 31 (0,0)) zz38):gb545≠gb544));replace BK544:=ak_ (blk_below (g:=gb544) (o:=.cells #[.int .i64 a0_0,.int .i64 a0_1,.int .i64 a0_2,.int .i64 a0_3] 31 (0,0)) zz38 hb);clear hb hbox hg;have hnb13:=NB544_545.out;have hnc13:=NB545_544.out;obtain ⟨hcz14_0,hcz14_1,hcz14_2,hcz14_3,hfz14_0,hfz14_1,hfz14_2,hfz14_3⟩:=zk4 BK544.out;obtain ⟨hcz15_0,hcz15_1,hcz15_2,hcz15_3,hfz15_0,hfz15_1,hfz15_2,hfz15_3⟩:=zk4 BK545.out))
  go_ret
  exact ⟨zz0,zz78⟩
 have c10b0:(a2 == 2)=false:=beq_eq_false_iff_ne.mpr c10
 have c10b1:(a2 != 2)=true:=bne_iff_ne.mpr c10
 replace H:=gN H;rcases H with ⟨c16,H⟩ | ⟨c16,H⟩
 ·have c16b0:(a2 == 3)=false:=beq_eq_false_iff_ne.mpr c16
  have c16b1:(a2 != 3)=true:=bne_iff_ne.mpr c16
  obtain rfl:=oi_ H
  go_enter Try.func87,Try.ntmps87
  go_wp2_with (first|((with_reducible refine gate_dst (N:=3) rfl ?_);refine box_event ?hg (N:=3) ?hd (cs:=#[.int .i64 a0_0,.int .i64 a0_1,.int .i64 a0_2,.int .i64 a0_3]) (t:=31) ?hr ?_;(case hd=>rfl);(case hg=>rfl);(case hr=>(go_simp;done));intro gb544 hg w22 hbox hb;have BK544:=ak_ (hbox);have GW544:=ak_ ((by rw [hg];exact (below_size zb):w.heap.size<=gb544));have GE544:=ak_ ((by rw [hg];exact (below_size zb):w.heap.size<=gb544));replace HB:=zb1 hb;clear hb hbox hg)|((with_reducible refine gate_dst (N:=4) rfl ?_);refine box_event ?hg (N:=4) ?hd (cs:=#[.int .i64 a1_0,.int .i64 a1_1,.int .i64 a1_2,.int .i64 a1_3]) (t:=31) ?hr ?_;(case hd=>rfl);(case hg=>rfl);(case hr=>(go_simp;done));intro gb545 hg w23 hbox hb;have BK545:=ak_ (hbox);have GW545:=ak_ ((by rw [hg];exact (below_size zz39):w.heap.size<=gb545));have GE545:=ak_ ((by rw [hg];exact (below_size zz39):w.heap.size<=gb545));replace HB:=ak_ (below_step zz39 hb);have NB544_545:=ak_ ((by rw [hg];exact Nat.ne_of_lt (blk_lt (g:=gb544) (o:=.cells #[.int .i64 a0_0,.int .i64 a0_1,.int .i64 a0_2,.int .i64 a0_3] 31 (0,0)) zz38):gb544≠gb545));have NB545_544:=ak_ ((by rw [hg];exact Nat.ne_of_gt (blk_lt (g:=gb544) (o:=.cells #[.int .i64 a0_0,.int .i64 a0_1,.int .i64 a0_2,.int .i64 a0_3] 31 (0,0)) zz38):gb545≠gb544));replace BK544:=ak_ (blk_below (g:=gb544) (o:=.cells #[.int .i64 a0_0,.int .i64 a0_1,.int .i64 a0_2,.int .i64 a0_3] 31 (0,0)) zz38 hb);clear hb hbox hg;have hnb24:=NB544_545.out;have hnc24:=NB545_544.out;obtain ⟨hcz25_0,hcz25_1,hcz25_2,hcz25_3,hfz25_0,hfz25_1,hfz25_2,hfz25_3⟩:=zk4 BK544.out;obtain ⟨hcz26_0,hcz26_1,hcz26_2,hcz26_3,hfz26_0,hfz26_1,hfz26_2,hfz26_3⟩:=zk4 BK545.out))
  go_ret
  exact ⟨zz0,zz78⟩
 have c16b0:(a2 == 3)=true:=beq_iff_eq.mpr c16
 have c16b1:(a2 != 3)=false:=bne_eq_false_iff_eq.mpr c16
 clear c16
 obtain rfl:=oi_ H
 go_enter Try.func87,Try.ntmps87
 go_wp2_with (first|((with_reducible refine gate_dst (N:=3) rfl ?_);refine box_event ?hg (N:=3) ?hd (cs:=#[.int .i64 a0_0,.int .i64 a0_1,.int .i64 a0_2,.int .i64 a0_3]) (t:=31) ?hr ?_;(case hd=>rfl);(case hg=>rfl);(case hr=>(go_simp;done));intro gb544 hg w17 hbox hb;have BK544:=ak_ (hbox);have GW544:=ak_ ((by rw [hg];exact (below_size zb):w.heap.size<=gb544));have GE544:=ak_ ((by rw [hg];exact (below_size zb):w.heap.size<=gb544));replace HB:=zb1 hb;clear hb hbox hg)|((with_reducible refine gate_dst (N:=4) rfl ?_);refine box_event ?hg (N:=4) ?hd (cs:=#[.int .i64 a1_0,.int .i64 a1_1,.int .i64 a1_2,.int .i64 a1_3]) (t:=31) ?hr ?_;(case hd=>rfl);(case hg=>rfl);(case hr=>(go_simp;done));intro gb545 hg w18 hbox hb;have BK545:=ak_ (hbox);have GW545:=ak_ ((by rw [hg];exact (below_size zz39):w.heap.size<=gb545));have GE545:=ak_ ((by rw [hg];exact (below_size zz39):w.heap.size<=gb545));replace HB:=ak_ (below_step zz39 hb);have NB544_545:=ak_ ((by rw [hg];exact Nat.ne_of_lt (blk_lt (g:=gb544) (o:=.cells #[.int .i64 a0_0,.int .i64 a0_1,.int .i64 a0_2,.int .i64 a0_3] 31 (0,0)) zz38):gb544≠gb545));have NB545_544:=ak_ ((by rw [hg];exact Nat.ne_of_gt (blk_lt (g:=gb544) (o:=.cells #[.int .i64 a0_0,.int .i64 a0_1,.int .i64 a0_2,.int .i64 a0_3] 31 (0,0)) zz38):gb545≠gb544));replace BK544:=ak_ (blk_below (g:=gb544) (o:=.cells #[.int .i64 a0_0,.int .i64 a0_1,.int .i64 a0_2,.int .i64 a0_3] 31 (0,0)) zz38 hb);clear hb hbox hg;have hnb19:=NB544_545.out;have hnc19:=NB545_544.out;obtain ⟨hcz20_0,hcz20_1,hcz20_2,hcz20_3,hfz20_0,hfz20_1,hfz20_2,hfz20_3⟩:=zk4 BK544.out;obtain ⟨hcz21_0,hcz21_1,hcz21_2,hcz21_3,hfz21_0,hfz21_1,hfz21_2,hfz21_3⟩:=zk4 BK545.out))
 go_ret
 exact ⟨zz0,zz78⟩
-- NOT PRINTED: function 86 (impl_ruledOrder_1)
