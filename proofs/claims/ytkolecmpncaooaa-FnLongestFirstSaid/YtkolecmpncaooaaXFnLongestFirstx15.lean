-- Words and walks of this claim.
import Derived.Test.YtkolecmpncaooaaXFnLongestFirstx0
namespace Go.Proofs.Ytkolecmpncaooaa.XFnLongestFirst
open Go.RowKit Go.Proofs.YtkolecmpncaooaaW.PrintWords Go.Proofs.YtkolecmpncaooaaW.PrintLast Go.Proofs.YtkolecmpncaooaaW.PrintMore
attribute [local go_sem] max2_int min2_int max_two min_two max_three min_three max_four min_four
attribute [local go_sem] idxA_51_0 idxA_51_1 fldS_45_0 fldS_45_1 fldS_45_2 fldS_96_0 fldS_96_1 fldS_96_2
set_option linter.unusedVariables false
set_option linter.unusedSimpArgs false
def spec_l4Before.f (a0_0:Int) (a0_1:Int) (a1_0:Int) (a1_1:Int):Option (Bool):=if a0_0<a1_0 then (some true) else (if a0_0=a1_0 then (some (decide (a0_1<a1_1))) else (some false))
set_option maxHeartbeats 8000000 in
set_option maxRecDepth 100000 in
theorem spec_l4Before.calls (a0_0:Int) (a0_1:Int) (a1_0:Int) (a1_1:Int) (r:Bool) (w:World) (h:spec_l4Before.f a0_0 a0_1 a1_0 a1_1=some r) :
  Calls Try.prog 111 #[.agg #[.int .i64 a0_0,.int .i64 a0_1],.agg #[.int .i64 a1_0,.int .i64 a1_1]] w fun e w'=>e=.returned (.bool r)/\Below w.heap.size w w':=by
 have hu51:=Try.underlying51
 have HB:=ak_ (Below.refl w.heap.size w)
 have H:(if a0_0<a1_0 then (some true) else (if a0_0=a1_0 then (some (decide (a0_1<a1_1))) else (some false)))=some r:=h
 clear h
 replace H:=gPD H;rcases H with ⟨c3b0,H⟩ | ⟨c3b0,H⟩
 ·obtain rfl:=oi_ H
  go_enter Try.func111,Try.ntmps111
  go_wp2_with (first|((with_reducible refine gate_dst (N:=2) rfl ?_);refine box_event ?hg (N:=2) ?hd (cs:=#[.int .i64 a0_0,.int .i64 a0_1]) (t:=51) ?hr ?_;(case hd=>rfl);(case hg=>rfl);(case hr=>(go_simp;done));intro gb369 hg w4 hbox hb;have BK369:=ak_ (hbox);have GW369:=ak_ ((by rw [hg];exact (below_size zb):w.heap.size<=gb369));have GE369:=ak_ ((by rw [hg];exact (below_size zb):w.heap.size<=gb369));replace HB:=zb1 hb;clear hb hbox hg)|((with_reducible refine gate_dst (N:=3) rfl ?_);refine box_event ?hg (N:=3) ?hd (cs:=#[.int .i64 a1_0,.int .i64 a1_1]) (t:=51) ?hr ?_;(case hd=>rfl);(case hg=>rfl);(case hr=>(go_simp;done));intro gb370 hg w5 hbox hb;have BK370:=ak_ (hbox);have GW370:=ak_ ((by rw [hg];exact (below_size zz54):w.heap.size<=gb370));have GE370:=ak_ ((by rw [hg];exact (below_size zz54):w.heap.size<=gb370));replace HB:=ak_ (below_step zz54 hb);have NB369_370:=ak_ ((by rw [hg];exact Nat.ne_of_lt (blk_lt (g:=gb369) (o:=.cells #[.int .i64 a0_0,.int .i64 a0_1] 51 (0,0)) zz53):gb369≠gb370));have NB370_369:=ak_ ((by rw [hg];exact Nat.ne_of_gt (blk_lt (g:=gb369) (o:=.cells #[.int .i64 a0_0,.int .i64 a0_1] 51 (0,0)) zz53):gb370≠gb369));replace BK369:=ak_ (blk_below (g:=gb369) (o:=.cells #[.int .i64 a0_0,.int .i64 a0_1] 51 (0,0)) zz53 hb);clear hb hbox hg;have hnb6:=NB369_370.out;have hnc6:=NB370_369.out;obtain ⟨hcz7_0,hcz7_1,hfz7_0,hfz7_1⟩:=zk2 BK369.out;obtain ⟨hcz8_0,hcz8_1,hfz8_0,hfz8_1⟩:=zk2 BK370.out))
  go_ret
  exact ⟨zz0,zz86⟩
 replace H:=gN H;rcases H with ⟨c9,H⟩ | ⟨c9,H⟩
 ·have c9b0:(a0_0 == a1_0)=false:=beq_eq_false_iff_ne.mpr c9
  have c9b1:(a0_0 != a1_0)=true:=bne_iff_ne.mpr c9
  obtain rfl:=oi_ H
  go_enter Try.func111,Try.ntmps111
  go_wp2_with (first|((with_reducible refine gate_dst (N:=2) rfl ?_);refine box_event ?hg (N:=2) ?hd (cs:=#[.int .i64 a0_0,.int .i64 a0_1]) (t:=51) ?hr ?_;(case hd=>rfl);(case hg=>rfl);(case hr=>(go_simp;done));intro gb369 hg w15 hbox hb;have BK369:=ak_ (hbox);have GW369:=ak_ ((by rw [hg];exact (below_size zb):w.heap.size<=gb369));have GE369:=ak_ ((by rw [hg];exact (below_size zb):w.heap.size<=gb369));replace HB:=zb1 hb;clear hb hbox hg)|((with_reducible refine gate_dst (N:=3) rfl ?_);refine box_event ?hg (N:=3) ?hd (cs:=#[.int .i64 a1_0,.int .i64 a1_1]) (t:=51) ?hr ?_;(case hd=>rfl);(case hg=>rfl);(case hr=>(go_simp;done));intro gb370 hg w16 hbox hb;have BK370:=ak_ (hbox);have GW370:=ak_ ((by rw [hg];exact (below_size zz54):w.heap.size<=gb370));have GE370:=ak_ ((by rw [hg];exact (below_size zz54):w.heap.size<=gb370));replace HB:=ak_ (below_step zz54 hb);have NB369_370:=ak_ ((by rw [hg];exact Nat.ne_of_lt (blk_lt (g:=gb369) (o:=.cells #[.int .i64 a0_0,.int .i64 a0_1] 51 (0,0)) zz53):gb369≠gb370));have NB370_369:=ak_ ((by rw [hg];exact Nat.ne_of_gt (blk_lt (g:=gb369) (o:=.cells #[.int .i64 a0_0,.int .i64 a0_1] 51 (0,0)) zz53):gb370≠gb369));replace BK369:=ak_ (blk_below (g:=gb369) (o:=.cells #[.int .i64 a0_0,.int .i64 a0_1] 51 (0,0)) zz53 hb);clear hb hbox hg;have hnb17:=NB369_370.out;have hnc17:=NB370_369.out;obtain ⟨hcz18_0,hcz18_1,hfz18_0,hfz18_1⟩:=zk2 BK369.out;obtain ⟨hcz19_0,hcz19_1,hfz19_0,hfz19_1⟩:=zk2 BK370.out))
  go_ret
  exact ⟨zz0,zz86⟩
 have c9b0:(a0_0 == a1_0)=true:=beq_iff_eq.mpr c9
 have c9b1:(a0_0 != a1_0)=false:=bne_eq_false_iff_eq.mpr c9
 clear c9
 obtain rfl:=oi_ H
 go_enter Try.func111,Try.ntmps111
 go_wp2_with (first|((with_reducible refine gate_dst (N:=2) rfl ?_);refine box_event ?hg (N:=2) ?hd (cs:=#[.int .i64 a0_0,.int .i64 a0_1]) (t:=51) ?hr ?_;(case hd=>rfl);(case hg=>rfl);(case hr=>(go_simp;done));intro gb369 hg w10 hbox hb;have BK369:=ak_ (hbox);have GW369:=ak_ ((by rw [hg];exact (below_size zb):w.heap.size<=gb369));have GE369:=ak_ ((by rw [hg];exact (below_size zb):w.heap.size<=gb369));replace HB:=zb1 hb;clear hb hbox hg)|((with_reducible refine gate_dst (N:=3) rfl ?_);refine box_event ?hg (N:=3) ?hd (cs:=#[.int .i64 a1_0,.int .i64 a1_1]) (t:=51) ?hr ?_;(case hd=>rfl);(case hg=>rfl);(case hr=>(go_simp;done));intro gb370 hg w11 hbox hb;have BK370:=ak_ (hbox);have GW370:=ak_ ((by rw [hg];exact (below_size zz54):w.heap.size<=gb370));have GE370:=ak_ ((by rw [hg];exact (below_size zz54):w.heap.size<=gb370));replace HB:=ak_ (below_step zz54 hb);have NB369_370:=ak_ ((by rw [hg];exact Nat.ne_of_lt (blk_lt (g:=gb369) (o:=.cells #[.int .i64 a0_0,.int .i64 a0_1] 51 (0,0)) zz53):gb369≠gb370));have NB370_369:=ak_ ((by rw [hg];exact Nat.ne_of_gt (blk_lt (g:=gb369) (o:=.cells #[.int .i64 a0_0,.int .i64 a0_1] 51 (0,0)) zz53):gb370≠gb369));replace BK369:=ak_ (blk_below (g:=gb369) (o:=.cells #[.int .i64 a0_0,.int .i64 a0_1] 51 (0,0)) zz53 hb);clear hb hbox hg;have hnb12:=NB369_370.out;have hnc12:=NB370_369.out;obtain ⟨hcz13_0,hcz13_1,hfz13_0,hfz13_1⟩:=zk2 BK369.out;obtain ⟨hcz14_0,hcz14_1,hfz14_0,hfz14_1⟩:=zk2 BK370.out))
 go_ret
 exact ⟨zz0,zz86⟩
