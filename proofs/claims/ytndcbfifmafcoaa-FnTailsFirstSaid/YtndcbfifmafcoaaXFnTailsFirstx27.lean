import Derived.Test.YtndcbfifmafcoaaXFnTailsFirstx8
import Derived.Test.YtndcbfifmafcoaaXFnTailsFirstx14
import Derived.Test.YtndcbfifmafcoaaXFnTailsFirstx25
import Derived.Test.YtndcbfifmafcoaaXFnTailsFirstx26
namespace Go.Proofs.Ytndcbfifmafcoaa.XFnTailsFirst
set_option maxRecDepth 100000
set_option maxHeartbeats 8000000
open Go.RowKit Go.Proofs.YtndcbfifmafcoaaW.PrintWords Go.Proofs.YtndcbfifmafcoaaW.PrintLast Go.Proofs.YtndcbfifmafcoaaW.PrintMore
set_option linter.unusedVariables false
set_option linter.unusedSimpArgs false
theorem impl_BestListPlan1.calls (k:Nat) (bj bm be bl bo:Nat) (A0:Option Addr) (c0:Nat) (l0:List S44) (a1:Int) (A2:Option Addr) (c2:Nat) (l2:List S42) (A:Option Addr) (c:Nat) (l:List Int) (least:Int) (vo:Value) (plan:List S73) (n:Int) (W:World) (hc0:l0.length<=c0) (hc2:l2.length<=c2) (hc:l.length<=c) (hne:bl≠bo)
  (hr0:Kd.C k44 W A0 l0.length l0) (hr2:Kd.C k42 W A2 l2.length l2) (hr:Kd.C (Kd.int .i64) W A l.length l)
  (xj:Boxed W bj 24 (.slice A0 l0.length c0)) (xm:Boxed W bm 3 (.int .i64 a1)) (xe:Boxed W be 25 (.slice A2 l2.length c2)) (xl:Boxed W bl 3 (.int .i64 least)) (xo:Boxed W bo 28 vo)
  (h:impl_listPlan.f k l0 a1 l2 l=some plan) (h2:impl_planLength.f k l0 plan=some n) :
  Calls Try.prog 37 #[.slice A l.length c,.pointer (some ⟨bj,0,none⟩),.pointer (some ⟨bm,0,none⟩),.pointer (some ⟨be,0,none⟩),.pointer (some ⟨bl,0,none⟩),.pointer (some ⟨bo,0,none⟩)] W fun e W'=>e=.returned (.tuple #[])/\∃ W1,Below W.heap.size W W1/\(¬ (least<0\/n<least)->W'=W1)/\((least<0\/n<least)->∃ v,Kd.R k73 73 W1 W.heap.size (fun _=>True) v plan/\W'=(W1.setCell ⟨bo,0,none⟩ v).setCell ⟨bl,0,none⟩ (.int .i64 n)):=by
 have HR0:=ak_ hr0;have HR2:=ak_ hr2;have HR:=ak_ hr;have H:=ak_ h;have H2:=ak_ h2;have HN:=ak_ hne;have XJ:=xj.cell;have XM:=xm.cell;have XE:=xe.cell;have BJ:=ak_ xj;have BL:=ak_ xl;have BO:=ak_ xo;clear hr0 hr2 hr h h2 xj xm xe xl xo hne
 go_enter Try.func37,Try.ntmps37
 go_wp2_with (fail)
 refine (impl_listPlan.calls k _ _ l0 a1 _ _ l2 _ _ l plan _ HR0.out hc0 HR2.out hc2 HR.out hc H.out).mono ?_;rintro e w4 ⟨v4,rfl,ho,hb⟩
 dsimp only
 obtain ⟨AP,cP,e4⟩:=Kd.R_slice ho;subst e4;clear XJ XM XE H;have XJ:=(boxed_below BJ.out hb).cell;have HO4:=ak_ ho;have HB4:=ak_ hb;clear ho hb
 go_wp2_with (fail)
 refine (impl_planLength.calls k _ _ l0 _ _ plan n _ (Kd.C_below HR0.out HB4.out) hc0 (r2_ HO4) (r1_ HO4) H2.out).mono ?_;rintro e w5 ⟨rfl,hb5⟩
 dsimp only
 have HO5:=ak_ (Kd.R_below HO4.out hb5);have HB5:=ak_ (below_step HB4.out hb5);clear HO4 HB4 XJ H2 hb5;have CL:=(boxed_below BL.out HB5.out).cell;have CO:=(boxed_below BO.out HB5.out).cell;have FO:=(boxed_below BO.out HB5.out).frozen;have CL2:∀ v,(w5.setCell ⟨bo,0,none⟩ v).cell? ⟨bl,0,none⟩=some (.int .i64 least):=fun v=>(boxed_set (boxed_below BL.out HB5.out) HN.out).cell
 have FL2:∀ v,(w5.setCell ⟨bo,0,none⟩ v).frozen? ⟨bl,0,none⟩=false:=fun v=>(boxed_set (boxed_below BL.out HB5.out) HN.out).frozen
 by_cases hu:least<0\/n<least
 rotate_left
 ·have q1:decide (least<0)=false:=decide_eq_false (fun z=>hu (.inl z));have q2:decide (n<least)=false:=decide_eq_false (fun z=>hu (.inr z));have HU:=ak_ hu;clear hu
  go_wp2
  refine bodyPost_end (results_none rfl _ _ _) rfl ?_;exact ⟨rfl,w5,HB5.out,fun _=>rfl,fun hn=>absurd hn HU.out⟩
 have hs1:decide (least<0)=true\/decide (least<0)=false/\decide (n<least)=true:=by
  by_cases z:least<0
  ·exact .inl (decide_eq_true z)
  ·exact .inr ⟨decide_eq_false z,decide_eq_true (hu.resolve_left z)⟩
 have HU:=ak_ hu;clear hu;rcases hs1 with q1 | ⟨q1,q2⟩
 all_goals
  go_wp2
  refine bodyPost_end (results_none rfl _ _ _) rfl ?_;exact ⟨rfl,w5,HB5.out,fun hn=>absurd HU.out hn,fun _=>⟨_,HO5.out,rfl⟩⟩
def impl_BestListPlan.step (l0:List S44) (a1:Int) (l2:List S42) (k:Nat) (l:List Int) (s:List S73 × Int):Option (List S73 × Int):=(impl_listPlan.f k l0 a1 l2 l).bind fun plan=>(impl_planLength.f k l0 plan).bind fun n=>some (if s.2<0\/n<s.2 then (plan,n) else s)
def impl_BestListPlan.f (k:Nat) (l0:List S44) (a1:Int) (l2:List S42):Option (List S73 × Bool):=(impl_isParallel.f k l0 a1 l2).bind fun b=>if b=true then (if (l0.length:Int)>6 then some ([],false) else (impl_eachOrder.f (impl_BestListPlan.step l0 a1 l2) k (l0.length:Int) ([], -1)).bind fun s=>some (s.1,true)) else some ([],false)
def impl_BestListPlan.inv (w:World) (l0:List S44) (A0:Option Addr) (c0:Nat) (a1:Int) (l2:List S42) (A2:Option Addr) (c2:Nat) (bj bm be bl bo:Nat) (hi:Nat) (s:List S73 × Int) (W:World):Prop:=Below w.heap.size w W/\Boxed W bj 24 (.slice A0 l0.length c0)/\Boxed W bm 3 (.int .i64 a1)/\Boxed W be 25 (.slice A2 l2.length c2)/\Boxed W bl 3 (.int .i64 s.2)/\∃ v,Boxed W bo 28 v/\Kd.R k73 73 W hi (fun k_=>hi<=k_) v s.1
theorem impl_BestListPlan.inv_move {w:World} {l0:List S44} {A0:Option Addr} {c0:Nat} {a1:Int} {l2:List S42} {A2:Option Addr} {c2:Nat} {bj bm be bl bo hi:Nat} {s:List S73 × Int} {W W':World} {B:Nat} (h:impl_BestListPlan.inv w l0 A0 c0 a1 l2 A2 c2 bj bm be bl bo hi s W) (hB:Below B W W') (hw:w.heap.size<=B) (hj:bj<B/\bm<B/\be<B/\bl<B/\bo<B) (hk:Kept W W' (fun k_=>B<=k_/\k_<hi)):impl_BestListPlan.inv w l0 A0 c0 a1 l2 A2 c2 bj bm be bl bo hi s W':=by
 obtain ⟨h1,h2,h3,h4,h7,v,h8,h9⟩:=h;exact ⟨h1.trans (hB.mono hw),(hB.block _ hj.1).trans h2,(hB.block _ hj.2.1).trans h3,(hB.block _ hj.2.2.1).trans h4,(hB.block _ hj.2.2.2.1).trans h7,v,(hB.block _ hj.2.2.2.2).trans h8,Kd.R_kept h9 hk (fun k_ a b=>by omega)⟩
theorem impl_BestListPlan.tell {w:World} {l0:List S44} {A0:Option Addr} {c0:Nat} {a1:Int} {l2:List S42} {A2:Option Addr} {c2:Nat} {bj bm be bl bo hi:Nat} {s s':List S73 × Int} {W:World} {B k:Nat} {A:Option Addr} {c:Nat} {l:List Int} (h:impl_BestListPlan.inv w l0 A0 c0 a1 l2 A2 c2 bj bm be bl bo hi s W) (hr0:Kd.C k44 w A0 l0.length l0) (hc0:l0.length<=c0) (hr2:Kd.C k42 w A2 l2.length l2) (hc2:l2.length<=c2) (hd:bl≠bo) (hd2:∀ b ∈ [bj,bm,be],b≠bl/\b≠bo) (hl:bl<B/\bo<B/\w.heap.size<=bl/\w.heap.size<=bo) (hB:B<=hi) (hW:hi<=W.heap.size)
  (hr:Kd.C (Kd.int .i64) W A l.length l) (hc:l.length<=c) (hs:impl_BestListPlan.step l0 a1 l2 k l s=some s') :
  Calls Try.prog 37 #[.slice A l.length c,.pointer (some ⟨bj,0,none⟩),.pointer (some ⟨bm,0,none⟩),.pointer (some ⟨be,0,none⟩),.pointer (some ⟨bl,0,none⟩),.pointer (some ⟨bo,0,none⟩)] W fun e W'=>e=.returned (.tuple #[])/\impl_BestListPlan.inv w l0 A0 c0 a1 l2 A2 c2 bj bm be bl bo hi s' W'/\Kept W W' (fun k_=>k_<B):=by
 unfold impl_BestListPlan.step at hs;obtain ⟨plan,hp,hs⟩:=Option.bind_eq_some_iff.1 hs;obtain ⟨n,hn,hs⟩:=Option.bind_eq_some_iff.1 hs;obtain rfl:=oi_ hs;obtain ⟨i0,ij,im,ie,il,v0,io,ir⟩:=h;refine (impl_BestListPlan1.calls k bj bm be bl bo A0 c0 l0 a1 A2 c2 l2 A c l s.2 v0 plan n W hc0 hc2 hc hd (Kd.C_below hr0 i0) (Kd.C_below hr2 i0) hr ij im ie il io hp hn).mono ?_;rintro e W' ⟨rfl,W1,hb,hno,hyes⟩;have z:=fun {b:Nat} {t:TypeId} {v:Value} (h:Boxed W b t v)=>boxed_below h hb
 have k1:Below w.heap.size w W1:=below_step i0 hb;have dj:=hd2 bj (by simp);have dm:=hd2 bm (by simp);have de:=hd2 be (by simp);by_cases q:s.2<0\/n<s.2
 ·rw [if_pos q];obtain ⟨v,hv,rfl⟩:=hyes q;have y:=fun {b:Nat} {t:TypeId} {u:Value} (h:Boxed W b t u) (d:b≠bl/\b≠bo)=>boxed_set (u:=.int .i64 n) (boxed_set (u:=v) (z h) d.2) d.1
  refine ⟨rfl,⟨below_set (below_set k1 hl.2.2.2) hl.2.2.1,y ij dj,y im dm,y ie de,Boxed.set _ (boxed_set (z il) hd),v,boxed_set (Boxed.set _ (z io)) (Ne.symm hd),?_⟩,Kept.setCell (Kept.setCell (Kept.of_below hb _) (.inl hl.2.1) _) (.inl hl.1) _⟩;have h1:=Kd.R_bound hv;exact Kd.R_far (Kd.R_far (Kd.R_lower (Kd.R_mono h1 (fun k_ hk_=>show hi<=k_ by have:=hk_.2.1;omega)) hW) (fun k_ hk_ e_=>by have e2:k_=bo:=e_;omega) _) (fun k_ hk_ e_=>by have e2:k_=bl:=e_;omega) _
 ·rw [if_neg q,hno q];exact ⟨rfl,⟨k1,z ij,z im,z ie,z il,v0,z io,Kd.R_below ir hb⟩,Kept.of_below hb _⟩
theorem impl_BestListPlan.calls (k:Nat) (A0:Option Addr) (c0:Nat) (l0:List S44) (a1:Int) (A2:Option Addr) (c2:Nat) (l2:List S42) (r1:List S73) (r2:Bool) (w:World) (hr0:Kd.C k44 w A0 l0.length l0) (hc0:l0.length<=c0) (hr2:Kd.C k42 w A2 l2.length l2) (hc2:l2.length<=c2) (h:impl_BestListPlan.f k l0 a1 l2=some (r1,r2)) :
  Calls Try.prog 8 #[.slice A0 l0.length c0,.int .i64 a1,.slice A2 l2.length c2] w fun e w'=>∃ v0_:Value,e=.returned (.tuple #[v0_,.bool r2])/\Kd.R k73 73 w' w.heap.size (fun _=>True) v0_ r1/\Below w.heap.size w w':=by
 unfold impl_BestListPlan.f at h;obtain ⟨t1,h1,h_⟩:=Option.bind_eq_some_iff.1 h;clear h;have HR0:=ak_ hr0;have HC0:=ak_ hc0;have HR2:=ak_ hr2;have HC2:=ak_ hc2;have H1:=ak_ h1;have H:=ak_ h_;have HB:=ak_ (Below.refl w.heap.size w);clear hr0 hc0 hr2 hc2 h1 h_
 go_enter Try.func8,Try.ntmps8
 go_wp2_with (fail)
 refine (impl_isParallel.calls k _ _ l0 a1 _ _ l2 t1 _ (Kd.C_below HR0.out zz14) HC0.out (Kd.C_below HR2.out zz14) HC2.out H1.out).mono ?_;rintro e w6 ⟨rfl,hb⟩
 dsimp only
 have Yj:Aside0 (Boxed w6 (w.heap.size) 24 (.slice A0 l0.length c0)):=⟨boxed_below zz69 hb⟩;have Ym:Aside0 (Boxed w6 (w.heap.size + 1) 3 (.int .i64 a1)):=⟨boxed_below zz69 hb⟩;have Ye:Aside0 (Boxed w6 (w.heap.size + 1 + 1) 25 (.slice A2 l2.length c2)):=⟨boxed_below zz69 hb⟩;replace HB:=ak_ (below_step zz14 hb);clear hb;have hH:=H.out;clear H;have XJ:=Yj.out.cell;cases t1 with
 | false=>
  obtain ⟨rfl,rfl⟩:([]:List S73)=r1/\false=r2:=by simpa using hH
  go_wp2
  go_ret2
  exact ⟨_,rfl,Kd.R_nil _ _ _ _ _,zz14⟩
 | true=>
  rw [if_pos rfl] at hH;by_cases h6:(l0.length:Int)>6
  ·rw [if_pos h6] at hH;have hd6:decide (6<(l0.length:Int))=true:=decide_eq_true h6;obtain ⟨rfl,rfl⟩:([]:List S73)=r1/\false=r2:=by simpa using hH
   clear h6 hH
   go_wp2
   go_ret2
   exact ⟨_,rfl,Kd.R_nil _ _ _ _ _,zz14⟩
  ·rw [if_neg h6] at hH;have hd6:decide (6<(l0.length:Int))=false:=decide_eq_false h6;obtain ⟨s,h4,h_⟩:=Option.bind_eq_some_iff.1 hH;clear hH h6;have H4:=ak_ h4;have H:=ak_ h_;clear h4 h_;obtain ⟨W0,hW0⟩:∃ W0,W0=(w6.alloc (.cells #[.slice none 0 0] 28)).alloc (.cells #[.int .i64 (-1)] 3):=⟨_,rfl⟩;have U1:Boxed W0 w6.heap.size 28 (.slice none 0 0):=by rw [hW0];exact (boxed_alloc rfl).alloc _
   have U2:Boxed W0 (w6.heap.size + 1) 3 (.int .i64 (-1)):=by rw [hW0];exact boxed_alloc (alloc_size _ _).symm
   have Zj:Boxed W0 (w.heap.size) 24 (.slice A0 l0.length c0):=by rw [hW0];exact (Yj.out.alloc _).alloc _
   have Zm:Boxed W0 (w.heap.size + 1) 3 (.int .i64 a1):=by rw [hW0];exact (Ym.out.alloc _).alloc _
   have Ze:Boxed W0 (w.heap.size + 1 + 1) 25 (.slice A2 l2.length c2):=by rw [hW0];exact (Ye.out.alloc _).alloc _
   have hb9:Below w.heap.size w W0:=by rw [hW0];exact below_alloc (below_alloc HB.out _) _
   have HLT:Aside0 (w.heap.size + 1 + 1<w6.heap.size/\W0.heap.size=w6.heap.size + 1 + 1):=⟨Ye.out.lt,by rw [hW0,alloc_size,alloc_size]⟩;have Z:=ak_ (show Below w.heap.size w W0/\Boxed W0 (w.heap.size) 24 (.slice A0 l0.length c0)/\Boxed W0 (w.heap.size + 1) 3 (.int .i64 a1)/\Boxed W0 (w.heap.size + 1 + 1) 25 (.slice A2 l2.length c2)/\Boxed W0 (w6.heap.size + 1) 3 (.int .i64 (-1))/\Boxed W0 w6.heap.size 28 (.slice none 0 0) from ⟨hb9,Zj,Zm,Ze,U2,U1⟩);have HW0:=ak_ hW0;have cj:=Zj.cell;rw [hW0] at cj;clear U1 U2 Zj Zm Ze hb9 hW0 Yj Ym Ye
   go_wp2_with (fail)
   rw [<-HW0.out];refine (impl_eachOrder.calls (impl_BestListPlan.step l0 a1 l2) 37 ?eg #[.pointer (some ⟨w.heap.size,0,none⟩),.pointer (some ⟨w.heap.size + 1,0,none⟩),.pointer (some ⟨w.heap.size + 1 + 1,0,none⟩),.pointer (some ⟨w6.heap.size + 1,0,none⟩),.pointer (some ⟨w6.heap.size,0,none⟩)] W0 (fun hi_ s_ W_=>impl_BestListPlan.inv w l0 A0 c0 a1 l2 A2 c2 (w.heap.size) (w.heap.size + 1) (w.heap.size + 1 + 1) (w6.heap.size + 1) w6.heap.size hi_ s_ W_) k _ ([], -1) s ?init ?move ?step H4.out).mono ?_
   case eg=>intro args w;go_simp
   case init=>
    intro W_ hW_;have hl:=HLT.out;obtain ⟨z1,z2,z3,z4,z7,z8⟩:=Z.out;exact ⟨z1.trans (hW_.mono (by omega)),(hW_.block _ (by omega)).trans z2,(hW_.block _ (by omega)).trans z3,(hW_.block _ (by omega)).trans z4,(hW_.block _ (by omega)).trans z7,_,(hW_.block _ (by omega)).trans z8,Kd.R_nil _ _ _ _ _⟩
   case move=>intro hi_ s_ W_ W2_ hle_ hi2_ hb_ hk_;exact impl_BestListPlan.inv_move hi2_ hb_ (by have:=HLT.out;omega) (by have:=HLT.out;omega) hk_
   case step=>intro hi_ k_ s_ s2_ W_ A_ c_ l_ hle_ hW_ hi2_ hC_ hc_ hs_;exact impl_BestListPlan.tell hi2_ HR0.out HC0.out HR2.out HC2.out (by have:=HLT.out;omega) (by have:=HLT.out;simp only [List.mem_cons,List.not_mem_nil,or_false];omega) (by have:=HLT.out;omega) hle_ hW_ hC_ hc_ hs_
   rintro e w9 ⟨rfl,hi_,hle_,_,hz⟩
   dsimp only
   obtain ⟨z1,z2,z3,z4,z7,v9,z8,z9⟩:=hz;obtain ⟨A9,c9,e9⟩:=Kd.R_slice z9;subst e9;have cf:=z8.cell;have HB9:=ak_ z1;have HO9:=ak_ (Kd.R_lower (Kd.R_mono z9 (fun _ _=>trivial) (ok':=fun _=>True)) (show w.heap.size<=hi_ by have:=HLT.out;omega));clear z1 z2 z3 z4 z7 z8 z9 Z HLT cj hle_ HW0;obtain ⟨rfl,rfl⟩:s.1=r1/\true=r2:=by simpa using H.out
   go_wp2
   go_ret2
   exact ⟨_,rfl,zR HO9.out,by repeat (exact HB9.out)⟩
