import Derived.Test.YtndcbfifmafcoaaXFnTailsFirstx0
namespace Go.Proofs.Ytndcbfifmafcoaa.XFnTailsFirst
set_option maxRecDepth 100000
set_option maxHeartbeats 8000000
open Go.RowKit Go.Proofs.YtndcbfifmafcoaaW.PrintWords Go.Proofs.YtndcbfifmafcoaaW.PrintLast Go.Proofs.YtndcbfifmafcoaaW.PrintMore
set_option linter.unusedVariables false
set_option linter.unusedSimpArgs false
def spec_l1In.f (a0:Int) (a1:Int) (a2:Int):Option (Bool):=if a0>=a1 then (some (decide (a0<=a2))) else (some false)
theorem spec_l1In.calls (a0:Int) (a1:Int) (a2:Int) (r:Bool) (w:World) (h:spec_l1In.f a0 a1 a2=some r) :
  Calls Try.prog 57 #[.int .i64 a0,.int .i64 a1,.int .i64 a2] w fun e w'=>e=.returned (.bool r)/\Drawn0 w w':=by
 have H:(if a0>=a1 then (some (decide (a0<=a2))) else (some false))=some r:=h;clear h;replace H:=gPD H;rcases H with ⟨c4b0,H⟩ | ⟨c4b0,H⟩
 ·obtain rfl:=oi_ H
  go_enter Try.func57,Try.ntmps57
  go_wp2
  go_ret
  exact ⟨zz7,zz4⟩
 obtain rfl:=oi_ H
 go_enter Try.func57,Try.ntmps57
 go_wp2
 go_ret
 exact ⟨zz7,zz4⟩
def spec_l4Before.f (a0_0:Int) (a0_1:Int) (a1_0:Int) (a1_1:Int):Option (Bool):=if a0_0<a1_0 then (some true) else (if a0_0=a1_0 then (some (decide (a0_1<a1_1))) else (some false))
theorem spec_l4Before.calls (a0_0:Int) (a0_1:Int) (a1_0:Int) (a1_1:Int) (r:Bool) (w:World) (h:spec_l4Before.f a0_0 a0_1 a1_0 a1_1=some r) :
  Calls Try.prog 79 #[.agg #[.int .i64 a0_0,.int .i64 a0_1],.agg #[.int .i64 a1_0,.int .i64 a1_1]] w fun e w'=>e=.returned (.bool r)/\Below w.heap.size w w':=by
 have hu42:=Try.underlying42;have HB:=ak_ (Below.refl w.heap.size w);have H:(if a0_0<a1_0 then (some true) else (if a0_0=a1_0 then (some (decide (a0_1<a1_1))) else (some false)))=some r:=h;clear h;replace H:=gPD H;rcases H with ⟨c3b0,H⟩ | ⟨c3b0,H⟩
 ·obtain rfl:=oi_ H
  go_enter Try.func79,Try.ntmps79
  go_wp2_with (first|((with_reducible refine gate_dst (N:=2) rfl ?_);refine bxe_ (N:=2) (cs:=#[.int .i64 a0_0,.int .i64 a0_1]) (t:=42) ?_;intro gb450 hg w4 hbox hb;have BK450:=ak_ (hbox);have GW450:=gw_ w hg;have GE450:=gw_ w hg;replace HB:=zb1 hb;clear hb hbox hg)|((with_reducible refine gate_dst (N:=3) rfl ?_);refine bxe_ (N:=3) (cs:=#[.int .i64 a1_0,.int .i64 a1_1]) (t:=42) ?_;intro gb451 hg w5 hbox hb;have BK451:=ak_ (hbox);have GW451:=ak_ ((by rw [hg];exact (below_size zz36):w.heap.size<=gb451));have GE451:=ak_ ((by rw [hg];exact (below_size zz36):w.heap.size<=gb451));replace HB:=ak_ (below_step zz36 hb);have NB450_451:=ak_ ((by rw [hg];exact Nat.ne_of_lt (blk_lt (g:=gb450) (o:=.cells #[.int .i64 a0_0,.int .i64 a0_1] 42 (0,0)) zz35):gb450≠gb451));have NB451_450:=ak_ ((by rw [hg];exact Nat.ne_of_gt (blk_lt (g:=gb450) (o:=.cells #[.int .i64 a0_0,.int .i64 a0_1] 42 (0,0)) zz35):gb451≠gb450));replace BK450:=ak_ (blk_below (g:=gb450) (o:=.cells #[.int .i64 a0_0,.int .i64 a0_1] 42 (0,0)) zz35 hb);clear hb hbox hg;have hnb6:=NB450_451.out;have hnc6:=NB451_450.out;obtain ⟨hcz7_0,hcz7_1,hfz7_0,hfz7_1⟩:=zk2 BK450.out;obtain ⟨hcz8_0,hcz8_1,hfz8_0,hfz8_1⟩:=zk2 BK451.out))
  go_ret
  exact ⟨zz3,zz65⟩
 replace H:=gN H;rcases H with ⟨c9,H⟩ | ⟨c9,H⟩
 ·have c9b0:(a0_0 == a1_0)=false:=beq_eq_false_iff_ne.mpr c9;have c9b1:(a0_0 != a1_0)=true:=bne_iff_ne.mpr c9;obtain rfl:=oi_ H
  go_enter Try.func79,Try.ntmps79
  go_wp2_with (first|((with_reducible refine gate_dst (N:=2) rfl ?_);refine bxe_ (N:=2) (cs:=#[.int .i64 a0_0,.int .i64 a0_1]) (t:=42) ?_;intro gb450 hg w15 hbox hb;have BK450:=ak_ (hbox);have GW450:=gw_ w hg;have GE450:=gw_ w hg;replace HB:=zb1 hb;clear hb hbox hg)|((with_reducible refine gate_dst (N:=3) rfl ?_);refine bxe_ (N:=3) (cs:=#[.int .i64 a1_0,.int .i64 a1_1]) (t:=42) ?_;intro gb451 hg w16 hbox hb;have BK451:=ak_ (hbox);have GW451:=ak_ ((by rw [hg];exact (below_size zz36):w.heap.size<=gb451));have GE451:=ak_ ((by rw [hg];exact (below_size zz36):w.heap.size<=gb451));replace HB:=ak_ (below_step zz36 hb);have NB450_451:=ak_ ((by rw [hg];exact Nat.ne_of_lt (blk_lt (g:=gb450) (o:=.cells #[.int .i64 a0_0,.int .i64 a0_1] 42 (0,0)) zz35):gb450≠gb451));have NB451_450:=ak_ ((by rw [hg];exact Nat.ne_of_gt (blk_lt (g:=gb450) (o:=.cells #[.int .i64 a0_0,.int .i64 a0_1] 42 (0,0)) zz35):gb451≠gb450));replace BK450:=ak_ (blk_below (g:=gb450) (o:=.cells #[.int .i64 a0_0,.int .i64 a0_1] 42 (0,0)) zz35 hb);clear hb hbox hg;have hnb17:=NB450_451.out;have hnc17:=NB451_450.out;obtain ⟨hcz18_0,hcz18_1,hfz18_0,hfz18_1⟩:=zk2 BK450.out;obtain ⟨hcz19_0,hcz19_1,hfz19_0,hfz19_1⟩:=zk2 BK451.out))
  go_ret
  exact ⟨zz3,zz65⟩
 have c9b0:(a0_0 == a1_0)=true:=beq_iff_eq.mpr c9;have c9b1:(a0_0 != a1_0)=false:=bne_eq_false_iff_eq.mpr c9;clear c9;obtain rfl:=oi_ H
 go_enter Try.func79,Try.ntmps79
 go_wp2_with (first|((with_reducible refine gate_dst (N:=2) rfl ?_);refine bxe_ (N:=2) (cs:=#[.int .i64 a0_0,.int .i64 a0_1]) (t:=42) ?_;intro gb450 hg w10 hbox hb;have BK450:=ak_ (hbox);have GW450:=gw_ w hg;have GE450:=gw_ w hg;replace HB:=zb1 hb;clear hb hbox hg)|((with_reducible refine gate_dst (N:=3) rfl ?_);refine bxe_ (N:=3) (cs:=#[.int .i64 a1_0,.int .i64 a1_1]) (t:=42) ?_;intro gb451 hg w11 hbox hb;have BK451:=ak_ (hbox);have GW451:=ak_ ((by rw [hg];exact (below_size zz36):w.heap.size<=gb451));have GE451:=ak_ ((by rw [hg];exact (below_size zz36):w.heap.size<=gb451));replace HB:=ak_ (below_step zz36 hb);have NB450_451:=ak_ ((by rw [hg];exact Nat.ne_of_lt (blk_lt (g:=gb450) (o:=.cells #[.int .i64 a0_0,.int .i64 a0_1] 42 (0,0)) zz35):gb450≠gb451));have NB451_450:=ak_ ((by rw [hg];exact Nat.ne_of_gt (blk_lt (g:=gb450) (o:=.cells #[.int .i64 a0_0,.int .i64 a0_1] 42 (0,0)) zz35):gb451≠gb450));replace BK450:=ak_ (blk_below (g:=gb450) (o:=.cells #[.int .i64 a0_0,.int .i64 a0_1] 42 (0,0)) zz35 hb);clear hb hbox hg;have hnb12:=NB450_451.out;have hnc12:=NB451_450.out;obtain ⟨hcz13_0,hcz13_1,hfz13_0,hfz13_1⟩:=zk2 BK450.out;obtain ⟨hcz14_0,hcz14_1,hfz14_0,hfz14_1⟩:=zk2 BK451.out))
 go_ret
 exact ⟨zz3,zz65⟩
