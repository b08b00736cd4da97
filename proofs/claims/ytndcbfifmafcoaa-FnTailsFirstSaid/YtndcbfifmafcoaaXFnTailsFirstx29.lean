import Derived.Test.YtndcbfifmafcoaaXFnTailsFirstx0
namespace Go.Proofs.Ytndcbfifmafcoaa.XFnTailsFirst
set_option maxRecDepth 100000
set_option maxHeartbeats 8000000
open Go.RowKit Go.Proofs.YtndcbfifmafcoaaW.PrintWords Go.Proofs.YtndcbfifmafcoaaW.PrintLast Go.Proofs.YtndcbfifmafcoaaW.PrintMore
set_option linter.unusedVariables false
set_option linter.unusedSimpArgs false
mutual
def impl_pairsOf.l0:Nat->List (S42)->List (List Bool)->Int->Int->Option ((List (S42)))
 | 0,_,_,_,_=>none
 | k + 1,x3,x8,x9,x10=>if x10<x9 then (if 0<=x10 then (if x10<(x8.length:Int) then (impl_pairsOf.l1 k x3 x10 x8 x9 x10 (rd_L5 x8 x10) ((rd_L5 x8 x10).length:Int) 0) else (none)) else (none)) else (some x3)
def impl_pairsOf.l1:Nat->List (S42)->Int->List (List Bool)->Int->Int->List Bool->Int->Int->Option ((List (S42)))
 | 0,_,_,_,_,_,_,_,_=>none
 | k + 1,x3,x4,x8,x9,x10,x15,x16,x17=>if x17<x16 then (if 0<=x17 then (if x17<(x15.length:Int) then (if rdOf false x15 x17=true then (if x3.length<8796093022208 then (impl_pairsOf.l1 k (x3++[(⟨x4,x17⟩:S42)]) x4 x8 x9 x10 x15 x16 (wrap64 (x17 + 1))) else (none)) else (impl_pairsOf.l1 k x3 x4 x8 x9 x10 x15 x16 (wrap64 (x17 + 1)))) else (none)) else (none)) else (impl_pairsOf.l0 k x3 x8 x9 (wrap64 (x10 + 1)))
end
def impl_pairsOf.f (k:Nat) (l0:List (List Bool)):Option ((List (S42))):=impl_pairsOf.l0 k ([]:List (S42)) l0 (l0.length:Int) 0
theorem impl_pairsOf.calls (k:Nat) (A0:Option Addr) (c0:Nat) (l0:List (List Bool)) (r:List (S42)) (w:World) (hr0:Kd.C (Kd.slice 4 Kd.bool) w A0 l0.length l0) (hc0:l0.length<=c0) (h:impl_pairsOf.f k l0=some r) :
  Calls Try.prog 72 #[.slice A0 l0.length c0] w fun e w'=>∃ v0_:Value,e=.returned (v0_)/\Kd.R k42 42 w' w.heap.size (fun _=>True) v0_ r/\Below w.heap.size w w':=by
 have hu42:=Try.underlying42;have HR0:=ak_ hr0;have HC0:=ak_ hc0;clear hr0 hc0;have HB:=ak_ (Below.refl w.heap.size w);have H:(impl_pairsOf.l0 k ([]:List (S42)) l0 (l0.length:Int) 0)=some r:=h;clear h;have H':=ak_ H;clear H
 go_enter Try.func72,Try.ntmps72
 go_wp2
 go_loopg [3,10] k (fun kq v3 v10 w'=>∃ (x3_1:List (S42)) (x10_1:Int),v10=.int .i64 x10_1/\Aside0 (impl_pairsOf.l0 kq x3_1 l0 (l0.length:Int) x10_1=some r)/\Aside0 (kq<=k)/\Aside0 (Kd.R k42 42 w' w.heap.size (fun _=>True) v3 x3_1)/\Aside0 (Below w.heap.size w w'))
 case atStart=>exact ⟨(([]:List (S42))),(0),zo,H',⟨Nat.le_refl _⟩,⟨zz46⟩,⟨zb⟩⟩
 case round=>
  clear H';obtain ⟨x3_1,x10_1,rfl,HA,HK1,HO_3,HB⟩:=hrel;cases gk with
  | zero=>exact absurd HA.out (by simp [impl_pairsOf.l0])
  | succ k1=>
   have H:=HA.out;clear HA;simp only [impl_pairsOf.l0] at H;replace H:=gND H;rcases H with ⟨c2b0,H⟩ | ⟨c2b0,H⟩
   ·obtain rfl:=oi_ H
    go_wp2
    go_ret
    exact ⟨_,zz3,zR HO_3.out,zb⟩
   replace H:=gD H;obtain ⟨c3b0,H⟩:=H;replace H:=gD H;obtain ⟨c4b0,H⟩:=H;have H':=ak_ H;clear H;obtain ⟨p692,q692,ad692,A692_0,c692_0,e692,hx692_0,hl692_0,hi692_0⟩:=ab_ (at_L5 HR0.out x10_1);cases e692;replace hx692_0:=zh_ HB hx692_0;have HR692_0:=ak_ hi692_0;have HC692_0:=ak_ hl692_0;clear hi692_0 hl692_0
   go_wp2
   go_loopg [3,17] k1 (fun kq v3 v17 w'=>∃ (x3_2:List (S42)) (x17_2:Int),v17=.int .i64 x17_2/\Aside0 (impl_pairsOf.l1 kq x3_2 x10_1 l0 (l0.length:Int) x10_1 (rd_L5 l0 x10_1) ((rd_L5 l0 x10_1).length:Int) x17_2=some r)/\Aside0 (kq<=k1)/\Aside0 (Kd.R k42 42 w' w.heap.size (fun _=>True) v3 x3_2)/\Aside0 (Below w.heap.size w w'))
   case atStart=>exact ⟨(x3_1),(0),zo,H',⟨Nat.le_refl _⟩,⟨zR HO_3.out⟩,⟨zb⟩⟩
   case round=>
    clear H';obtain ⟨x3_2,x17_2,rfl,HA,HK2,HO_3,HB⟩:=hrel;cases gk with
    | zero=>exact absurd HA.out (by simp [impl_pairsOf.l1])
    | succ k2=>
     have H:=HA.out;clear HA;simp only [impl_pairsOf.l1] at H;replace H:=gND H;rcases H with ⟨c5b0,H⟩ | ⟨c5b0,H⟩
     ·have H':=ak_ H;clear H
      go_wp2
      go_roundg k2
      case measure=>have:=HK1.out;have:=HK2.out;omega
      case rel=>exact ⟨(x3_2),(wrap64 (x10_1 + 1)),zo,H',⟨zz5⟩,⟨zR HO_3.out⟩,⟨zb⟩⟩
     replace H:=gD H;obtain ⟨c6b0,H⟩:=H;replace H:=gD H;obtain ⟨c7b0,H⟩:=H;obtain ⟨bq8,hbq8⟩:∃ b_:Bool,b_=(rdOf false (rd_L5 l0 x10_1) x17_2):=⟨_,rfl⟩;replace H:(if bq8=true then (if x3_2.length<8796093022208 then (impl_pairsOf.l1 k2 (x3_2++[(⟨x10_1,x17_2⟩:S42)]) x10_1 l0 (l0.length:Int) x10_1 (rd_L5 l0 x10_1) ((rd_L5 l0 x10_1).length:Int) (wrap64 (x17_2 + 1))) else (none)) else (impl_pairsOf.l1 k2 x3_2 x10_1 l0 (l0.length:Int) x10_1 (rd_L5 l0 x10_1) ((rd_L5 l0 x10_1).length:Int) (wrap64 (x17_2 + 1))))=some r:=by rw [<-hbq8] at H;exact H
     have Nbq8:=ak_ hbq8;clear hbq8;replace H:=gNB H;rcases H with ⟨rfl,H⟩ | ⟨rfl,H⟩
     ·have H':=ak_ H;clear H;obtain ⟨p693,q693,ad693,e693,hx693_0⟩:=ab_ (Kd.at_bool HR692_0.out x17_2)
      (try rw [<-Nbq8.out] at hx693_0)
      cases e693;replace hx693_0:=zh_ HB hx693_0
      go_wp2
      go_roundg k2
      case measure=>have:=HK1.out;have:=HK2.out;omega
      case rel=>exact ⟨(x3_2),(wrap64 (x17_2 + 1)),zo,H',⟨zz5⟩,⟨zR HO_3.out⟩,⟨zb⟩⟩
     replace H:=gL H;obtain ⟨LMc10,H⟩:=H;generalize hy694:(x3_2++[(⟨x10_1,x17_2⟩:S42)]:List (S42))=y694 at H;have Ny694:=ak_ hy694.symm;clear hy694;have H':=ak_ H;clear H;obtain ⟨p693,q693,ad693,e693,hx693_0⟩:=ab_ (Kd.at_bool HR692_0.out x17_2)
     (try rw [<-Nbq8.out] at hx693_0)
     cases e693;replace hx693_0:=zh_ HB hx693_0
     go_wp2_with (((with_reducible refine gate_builtin (b:=.append) (xs:=#[.tmp 23,.tmp 27]) rfl ?_);at_builtin;refine Kd.R_append k42 (w0:=w) w.heap.size rfl (.tmp 23) (.tmp 27) 25 42 (.agg #[(.int .i64 0),(.int .i64 0)]) 16 rfl Try.underlying25 info42 rfl (by decide) (by omega) u3 x3_2 (⟨x10_1,x17_2⟩:S42) [.int .i64 x10_1,.int .i64 x17_2] (fun _=>True) (fun _=>False) rfl rfl ?aP (fun _ hk=>hk.elim) ?aF ?aO ?aB ?aS ?aL ?_;(case aP=>exact k42_mkM _ _ _ (⟨x10_1,x17_2⟩:S42));(case aB=>exact zb);(case aF=>exact (fun _ _=>trivial));(case aO=>exact (zR HO_3.out));(case aS=>exact (below_size zb));(case aL=>have:=LMc10.out;omega);intro v695 w11 ho hb hg hat;rw [<-Ny694.out] at ho;replace HB:=ak_ (hb);have HO696:=ak_ (ho);clear HO_3;clear ho hb hg hat))
     go_roundg k2
     case measure=>have:=HK1.out;have:=HK2.out;omega
     case rel=>exact ⟨(y694),(wrap64 (x17_2 + 1)),zo,H',⟨zz5⟩,⟨zR HO696.out⟩,⟨zb⟩⟩
mutual
def impl_reduction.l0:Nat->List (List Bool)->List (S42)->List (S42)->Int->Int->Option ((List (S42)))
 | 0,_,_,_,_,_=>none
 | k + 1,x0,x3,x9,x10,x11=>if x11<x10 then (if 0<=x11 then (if x11<(x9.length:Int) then (impl_reduction.l1 k x0 x3 true x9 x10 x11 (x0.length:Int) 0 ((rd_T42 x9 x11).f0) ((rd_T42 x9 x11).f1)) else (none)) else (none)) else (some x3)
def impl_reduction.l1:Nat->List (List Bool)->List (S42)->Bool->List (S42)->Int->Int->Int->Int->Int->Int->Option ((List (S42)))
 | 0,_,_,_,_,_,_,_,_,_,_=>none
 | k + 1,x0,x3,x6,x9,x10,x11,x16,x17,x702000,x702001=>if x17<x16 then (if x6=true then (if 0<=x702000 then (if x702000<(x0.length:Int) then (if 0<=x17 then (if x17<((rd_L5 x0 x702000).length:Int) then (if rdOf false (rd_L5 x0 x702000) x17=true then (if x17<(x0.length:Int) then (if 0<=x702001 then (if x702001<((rd_L5 x0 x17).length:Int) then (impl_reduction.l1 k x0 x3 (!(rdOf false (rd_L5 x0 x17) x702001)) x9 x10 x11 x16 (wrap64 (x17 + 1)) x702000 x702001) else (none)) else (none)) else (none)) else (impl_reduction.l1 k x0 x3 (!false) x9 x10 x11 x16 (wrap64 (x17 + 1)) x702000 x702001)) else (none)) else (none)) else (none)) else (none)) else (impl_reduction.l1 k x0 x3 false x9 x10 x11 x16 (wrap64 (x17 + 1)) x702000 x702001)) else (if x6=true then (if x3.length<8796093022208 then (impl_reduction.l0 k x0 (x3++[(⟨x702000,x702001⟩:S42)]) x9 x10 (wrap64 (x11 + 1))) else (none)) else (impl_reduction.l0 k x0 x3 x9 x10 (wrap64 (x11 + 1))))
end
def impl_reduction.f (k:Nat) (l0:List (List Bool)):Option ((List (S42))):=(impl_pairsOf.f k l0).bind fun t697=>(impl_reduction.l0 k l0 ([]:List (S42)) t697 (t697.length:Int) 0)
theorem impl_reduction.calls (k:Nat) (A0:Option Addr) (c0:Nat) (l0:List (List Bool)) (r:List (S42)) (w:World) (hr0:Kd.C (Kd.slice 4 Kd.bool) w A0 l0.length l0) (hc0:l0.length<=c0) (h:impl_reduction.f k l0=some r) :
  Calls Try.prog 47 #[.slice A0 l0.length c0] w fun e w'=>∃ v0_:Value,e=.returned (v0_)/\Kd.R k42 42 w' w.heap.size (fun _=>True) v0_ r/\Below w.heap.size w w':=by
 have hu42:=Try.underlying42;have HR0:=ak_ hr0;have HC0:=ak_ hc0;clear hr0 hc0;have HB:=ak_ (Below.refl w.heap.size w);have H:((impl_pairsOf.f k l0).bind fun t697=>(impl_reduction.l0 k l0 ([]:List (S42)) t697 (t697.length:Int) 0))=some r:=h;clear h;replace H:=gT H;obtain ⟨t697,A2,H⟩:=H;have H':=ak_ H;clear H
 go_enter Try.func47,Try.ntmps47
 go_wp2_with ((go_at_call 72;(with_reducible refine (impl_pairsOf.calls k _ _ l0 t697 _ ?side1 ?side2 A2.out).mono ?_);(case side1=>exact zC HR0.out);(case side2=>exact HC0.out);rintro e w3 ⟨v698,rfl,ho0,hb⟩;have HO699:=ak_ (Kd.R_lower ho0 (below_size zb));replace HB:=zb1 hb;(try clear hb);(try clear ho0);obtain ⟨Ao4,co4,eo4⟩:=Kd.R_slice HO699.out;subst eo4))
 repeat (go_quiet ((go_at_call 72;(with_reducible refine (impl_pairsOf.calls k _ _ l0 t697 _ ?side1 ?side2 A2.out).mono ?_);(case side1=>exact zC HR0.out);(case side2=>exact HC0.out);rintro e w3 ⟨v698,rfl,ho0,hb⟩;have HO699:=ak_ (Kd.R_lower ho0 (below_size zb));replace HB:=zb1 hb;obtain ⟨Ao4,co4,eo4⟩:=Kd.R_slice HO699.out;subst eo4)))
 go_loopg [3,11] k (fun kq v3 v11 w'=>∃ (x3_1:List (S42)) (x11_1:Int),v11=.int .i64 x11_1/\Aside0 (impl_reduction.l0 kq l0 x3_1 t697 (t697.length:Int) x11_1=some r)/\Aside0 (kq<=k)/\Aside0 (Kd.R k42 42 w' w.heap.size (fun k_=>some k_≠((.slice Ao4 t697.length co4):Value).ownBlock) v3 x3_1)/\Aside0 (Kd.R k42 42 w' w.heap.size (fun k_=>some k_≠(v3:Value).ownBlock) (.slice Ao4 t697.length co4) t697)/\Aside0 (Below w.heap.size w w'))
 case atStart=>exact ⟨(([]:List (S42))),(0),zo,H',⟨Nat.le_refl _⟩,⟨zz46⟩,⟨zR (Kd.R_mono HO699.out (fun _ hk=>(by simp [Value.ownBlock])))⟩,⟨zb⟩⟩
 case round=>
  clear H';obtain ⟨x3_1,x11_1,rfl,HA,HK1,HO_3,HO_9,HB⟩:=hrel;cases gk with
  | zero=>exact absurd HA.out (by simp [impl_reduction.l0])
  | succ k1=>
   have H:=HA.out;clear HA;simp only [impl_reduction.l0] at H;replace H:=gND H;rcases H with ⟨c5b0,H⟩ | ⟨c5b0,H⟩
   ·obtain rfl:=oi_ H
    go_wp2
    repeat (go_quiet (fail))
    go_ret
    exact ⟨_,zz3,zR (Kd.R_mono HO_3.out (fun _ hk=>trivial)),zb⟩
   replace H:=gD H;obtain ⟨c6b0,H⟩:=H;replace H:=gD H;obtain ⟨c7b0,H⟩:=H;have H':=ak_ H;clear H;obtain ⟨p700,q700,ad700,e700,hx700_0,hx700_1⟩:=ab_ (at_T42 (r2_ HO_9) x11_1);cases e700
   go_wp2_with (((with_reducible refine gate_dst (N:=5) rfl ?_);refine bxe_ (N:=5) (cs:=#[.int .i64 0,.int .i64 0]) (t:=42) ?_;intro gb701 hg w8 hbox hb;replace HO_3:=ak_ (Kd.R_below (Kd.R_elderB (zR HO_3.out) gb701 (Nat.le_of_eq hg.symm)) hb);replace HO_9:=ak_ (Kd.R_below (Kd.R_elderB (zR HO_9.out) gb701 (Nat.le_of_eq hg.symm)) hb);have BK701:=ak_ (hbox);have GW701:=gw_ w hg;have GE701:=gw_ w hg;replace HB:=zb1 hb;clear hb hbox hg;obtain ⟨hcz9_0,hcz9_1,hfz9_0,hfz9_1⟩:=zk2 BK701.out))
   repeat (go_quiet (((with_reducible refine gate_dst (N:=5) rfl ?_);refine bxe_ (N:=5) (cs:=#[.int .i64 0,.int .i64 0]) (t:=42) ?_;intro gb701 hg w8 hbox hb;replace HO_3:=ak_ (Kd.R_below (Kd.R_elderB (zR HO_3.out) gb701 (Nat.le_of_eq hg.symm)) hb);replace HO_9:=ak_ (Kd.R_below (Kd.R_elderB (zR HO_9.out) gb701 (Nat.le_of_eq hg.symm)) hb);have BK701:=ak_ (hbox);have GW701:=gw_ w hg;have GE701:=gw_ w hg;replace HB:=zb1 hb;clear hb hbox hg;obtain ⟨hcz9_0,hcz9_1,hfz9_0,hfz9_1⟩:=zk2 BK701.out)))
   go_loopg [6,17] k1 (fun kq v6 v17 w'=>∃ (x6_2:Bool) (x17_2:Int),v6=.bool x6_2/\v17=.int .i64 x17_2/\Aside0 (impl_reduction.l1 kq l0 x3_1 x6_2 t697 (t697.length:Int) x11_1 (l0.length:Int) x17_2 ((rd_T42 t697 x11_1).f0) ((rd_T42 t697 x11_1).f1)=some r)/\Aside0 (kq<=k1)/\Aside0 (Kd.R k42 42 w' w.heap.size (fun k_=>some k_≠((.slice (some ad700) t697.length co4):Value).ownBlock/\k_≠gb701) u3 x3_1)/\Aside0 (Kd.R k42 42 w' w.heap.size (fun k_=>some k_≠(u3:Value).ownBlock/\k_≠gb701) (.slice (some ad700) t697.length co4) t697)/\Aside0 (w'.heap[gb701]?=some (.cells #[.int .i64 ((rd_T42 t697 x11_1).f0),.int .i64 ((rd_T42 t697 x11_1).f1)] 42 (0,0)))/\Aside0 (Below w.heap.size w w'))
   case atStart=>exact ⟨(true),(0),zo,zo,H',⟨Nat.le_refl _⟩,⟨by (with_reducible repeat (apply Kd.R_alloc));exact Kd.R_mono (Kd.R_far (p:=⟨gb701,1,none⟩) (Kd.R_far (p:=⟨gb701,0,none⟩) (Kd.R_mono HO_3.out (fun k_ hk=>(⟨hk,hk.2⟩:_/\k_≠gb701))) (fun _ hk=>hk.2) (.int .i64 ((rd_T42 t697 x11_1).f0))) (fun _ hk=>hk.2) (.int .i64 ((rd_T42 t697 x11_1).f1))) (fun _ hk=>⟨hk.1.1,hk.1.2⟩)⟩,⟨by (with_reducible repeat (apply Kd.R_alloc));exact Kd.R_mono (Kd.R_far (p:=⟨gb701,1,none⟩) (Kd.R_far (p:=⟨gb701,0,none⟩) (Kd.R_mono HO_9.out (fun k_ hk=>(⟨hk,hk.2⟩:_/\k_≠gb701))) (fun _ hk=>hk.2) (.int .i64 ((rd_T42 t697 x11_1).f0))) (fun _ hk=>hk.2) (.int .i64 ((rd_T42 t697 x11_1).f1))) (fun _ hk=>⟨hk.1.1,hk.1.2⟩)⟩,⟨by (with_reducible repeat (refine blk_drewN ?_ _));refine blk_put (cs:=#[.int .i64 ((rd_T42 t697 x11_1).f0),.int .i64 0]) ?_ 1 _ rfl;(with_reducible repeat (refine blk_drewN ?_ _));refine blk_put (cs:=#[.int .i64 0,.int .i64 0]) ?_ 0 _ rfl;(with_reducible repeat (refine blk_drewN ?_ _));exact BK701.out⟩,⟨zz28⟩⟩
   case round=>
    clear H';obtain ⟨x6_2,x17_2,rfl,rfl,HA,HK2,HO_3,HO_9,BK701,HB⟩:=hrel;cases gk with
    | zero=>exact absurd HA.out (by simp [impl_reduction.l1])
    | succ k2=>
     have H:=HA.out;clear HA;simp only [impl_reduction.l1] at H;replace H:=gPD H;rcases H with ⟨c10b0,H⟩ | ⟨c10b0,H⟩
     ·replace H:=gNB H;rcases H with ⟨rfl,H⟩ | ⟨rfl,H⟩
      ·have H':=ak_ H;clear H
       go_wp2
       repeat (go_quiet (fail);try go_wp2)
       go_roundg k2
       case measure=>have:=HK1.out;have:=HK2.out;omega
       case rel=>exact ⟨(false),(wrap64 (x17_2 + 1)),zo,zo,H',⟨zz5⟩,⟨zR HO_3.out⟩,⟨zR HO_9.out⟩,⟨zz38⟩,⟨zz28⟩⟩
      replace H:=gD H;obtain ⟨c12b0,H⟩:=H;replace H:=gD H;obtain ⟨c13b0,H⟩:=H;replace H:=gD H;obtain ⟨c14b0,H⟩:=H;replace H:=gD H;obtain ⟨c15b0,H⟩:=H;obtain ⟨bq16,hbq16⟩:∃ b_:Bool,b_=(rdOf false (rd_L5 l0 ((rd_T42 t697 x11_1).f0)) x17_2):=⟨_,rfl⟩;replace H:(if bq16=true then (if x17_2<(l0.length:Int) then (if 0<=((rd_T42 t697 x11_1).f1) then (if ((rd_T42 t697 x11_1).f1)<((rd_L5 l0 x17_2).length:Int) then (impl_reduction.l1 k2 l0 x3_1 (!(rdOf false (rd_L5 l0 x17_2) ((rd_T42 t697 x11_1).f1))) t697 (t697.length:Int) x11_1 (l0.length:Int) (wrap64 (x17_2 + 1)) ((rd_T42 t697 x11_1).f0) ((rd_T42 t697 x11_1).f1)) else (none)) else (none)) else (none)) else (impl_reduction.l1 k2 l0 x3_1 (!false) t697 (t697.length:Int) x11_1 (l0.length:Int) (wrap64 (x17_2 + 1)) ((rd_T42 t697 x11_1).f0) ((rd_T42 t697 x11_1).f1)))=some r:=by rw [<-hbq16] at H;exact H
      have Nbq16:=ak_ hbq16;clear hbq16;replace H:=gNB H;rcases H with ⟨rfl,H⟩ | ⟨rfl,H⟩
      ·have H':=ak_ H;clear H;obtain ⟨hcz22_0,hcz22_1,hfz22_0,hfz22_1⟩:=zk2 BK701.out;obtain ⟨p702,q702,ad702,A702_0,c702_0,e702,hx702_0,hl702_0,hi702_0⟩:=ab_ (at_L5 HR0.out ((rd_T42 t697 x11_1).f0));cases e702;replace hx702_0:=zh_ HB hx702_0;have HR702_0:=ak_ hi702_0;have HC702_0:=ak_ hl702_0;clear hi702_0 hl702_0;obtain ⟨p703,q703,ad703,e703,hx703_0⟩:=ab_ (Kd.at_bool HR702_0.out x17_2)
       (try rw [<-Nbq16.out] at hx703_0)
       cases e703;replace hx703_0:=zh_ HB hx703_0
       go_wp2
       repeat (go_quiet (fail);try go_wp2)
       go_roundg k2
       case measure=>have:=HK1.out;have:=HK2.out;omega
       case rel=>exact ⟨(!false),(wrap64 (x17_2 + 1)),zo,zo,H',⟨zz5⟩,⟨zR HO_3.out⟩,⟨zR HO_9.out⟩,⟨zz38⟩,⟨zz28⟩⟩
      replace H:=gD H;obtain ⟨c18b0,H⟩:=H;replace H:=gD H;obtain ⟨c19b0,H⟩:=H;replace H:=gD H;obtain ⟨c20b0,H⟩:=H;have H':=ak_ H;clear H;obtain ⟨hcz21_0,hcz21_1,hfz21_0,hfz21_1⟩:=zk2 BK701.out;obtain ⟨p702,q702,ad702,A702_0,c702_0,e702,hx702_0,hl702_0,hi702_0⟩:=ab_ (at_L5 HR0.out ((rd_T42 t697 x11_1).f0));cases e702;replace hx702_0:=zh_ HB hx702_0;have HR702_0:=ak_ hi702_0;have HC702_0:=ak_ hl702_0;clear hi702_0 hl702_0;obtain ⟨p703,q703,ad703,e703,hx703_0⟩:=ab_ (Kd.at_bool HR702_0.out x17_2)
      (try rw [<-Nbq16.out] at hx703_0)
      cases e703;replace hx703_0:=zh_ HB hx703_0;obtain ⟨p704,q704,ad704,A704_0,c704_0,e704,hx704_0,hl704_0,hi704_0⟩:=ab_ (at_L5 HR0.out x17_2);obtain rfl:ad702=ad704:=(by injection e704);replace hx704_0:=zh_ HB hx704_0;have HR704_0:=ak_ hi704_0;have HC704_0:=ak_ hl704_0;clear hi704_0 hl704_0;obtain ⟨p705,q705,ad705,e705,hx705_0⟩:=ab_ (Kd.at_bool (Kd.C_below HR704_0.out HB.out) ((rd_T42 t697 x11_1).f1));cases e705
      go_wp2
      repeat (go_quiet (fail);try go_wp2)
      go_roundg k2
      case measure=>have:=HK1.out;have:=HK2.out;omega
      case rel=>exact ⟨(!(rdOf false (rd_L5 l0 x17_2) ((rd_T42 t697 x11_1).f1))),(wrap64 (x17_2 + 1)),zo,zo,H',⟨zz5⟩,⟨zR HO_3.out⟩,⟨zR HO_9.out⟩,⟨zz38⟩,⟨zz28⟩⟩
     replace H:=gNB H;rcases H with ⟨rfl,H⟩ | ⟨rfl,H⟩
     ·have H':=ak_ H;clear H
      go_wp2
      repeat (go_quiet (fail))
      go_roundg k2
      case measure=>have:=HK1.out;have:=HK2.out;omega
      case rel=>exact ⟨(x3_1),(wrap64 (x11_1 + 1)),zo,H',⟨zz5⟩,⟨zR (Kd.R_mono HO_3.out (fun _ hk=>hk.1))⟩,⟨zR (Kd.R_mono HO_9.out (fun _ hk=>hk.1))⟩,⟨zz28⟩⟩
     replace H:=gL H;obtain ⟨LMc24,H⟩:=H;generalize hy706:(x3_1++[(⟨((rd_T42 t697 x11_1).f0),((rd_T42 t697 x11_1).f1)⟩:S42)]:List (S42))=y706 at H;have Ny706:=ak_ hy706.symm;clear hy706;have H':=ak_ H;clear H;obtain ⟨hcz25_0,hcz25_1,hfz25_0,hfz25_1⟩:=zk2 BK701.out
     go_wp2_with (((with_reducible refine gate_builtin (b:=.append) (xs:=#[.tmp 44,.tmp 46]) rfl ?_);at_builtin;refine Kd.R_append k42 (w0:=w) w.heap.size rfl (.tmp 44) (.tmp 46) 25 42 (.agg #[(.int .i64 0),(.int .i64 0)]) 16 rfl Try.underlying25 info42 rfl (by decide) (by omega) u3 x3_1 (⟨((rd_T42 t697 x11_1).f0),((rd_T42 t697 x11_1).f1)⟩:S42) [.int .i64 ((rd_T42 t697 x11_1).f0),.int .i64 ((rd_T42 t697 x11_1).f1)] (fun k_=>some k_≠(.slice (some ad700) t697.length co4:Value).ownBlock/\k_≠gb701) (fun _=>False) rfl rfl ?aP (fun _ hk=>hk.elim) ?aF ?aO ?aB ?aS ?aL ?_;(case aP=>exact k42_mkM _ _ _ (⟨((rd_T42 t697 x11_1).f0),((rd_T42 t697 x11_1).f1)⟩:S42));(case aB=>exact zz28);(case aF=>exact (fun k_ hk=>⟨Kd.fresh' (Kd.R_lt (zR HO_9.out)) k_ hk,Kd.freshB (g:=gb701) (o:=.cells #[.int .i64 ((rd_T42 t697 x11_1).f0),.int .i64 ((rd_T42 t697 x11_1).f1)] 42 (0,0)) zz38 k_ hk⟩));(case aO=>exact (zR HO_3.out));(case aS=>exact (below_size zz28));(case aL=>have:=LMc24.out;omega);intro v707 w26 ho hb hg hat;rw [<-Ny706.out] at ho;replace HO_9:=ak_ (Kd.R_after (ok:=(fun k_=>k_≠gb701)) (zR (Kd.R_mono HO_9.out (fun _ hk=>⟨hk.2,hk.1⟩))) hg hat);replace BK701:=ak_ (blk_grown (g:=gb701) (o:=.cells #[.int .i64 ((rd_T42 t697 x11_1).f0),.int .i64 ((rd_T42 t697 x11_1).f1)] 42 (0,0)) zz38 hg (Kd.R_away HO_3.out (fun _ hk=>hk.2)));replace HB:=ak_ (hb);have HO708:=ak_ (ho);clear HO_3;clear ho hb hg hat))
     repeat (go_quiet (((with_reducible refine gate_builtin (b:=.append) (xs:=#[.tmp 44,.tmp 46]) rfl ?_);at_builtin;refine Kd.R_append k42 (w0:=w) w.heap.size rfl (.tmp 44) (.tmp 46) 25 42 (.agg #[(.int .i64 0),(.int .i64 0)]) 16 rfl Try.underlying25 info42 rfl (by decide) (by omega) u3 x3_1 (⟨((rd_T42 t697 x11_1).f0),((rd_T42 t697 x11_1).f1)⟩:S42) [.int .i64 ((rd_T42 t697 x11_1).f0),.int .i64 ((rd_T42 t697 x11_1).f1)] (fun k_=>some k_≠(.slice (some ad700) t697.length co4:Value).ownBlock/\k_≠gb701) (fun _=>False) rfl rfl ?aP (fun _ hk=>hk.elim) ?aF ?aO ?aB ?aS ?aL ?_;(case aP=>exact k42_mkM _ _ _ (⟨((rd_T42 t697 x11_1).f0),((rd_T42 t697 x11_1).f1)⟩:S42));(case aB=>exact zz28);(case aF=>exact (fun k_ hk=>⟨Kd.fresh' (Kd.R_lt (zR HO_9.out)) k_ hk,Kd.freshB (g:=gb701) (o:=.cells #[.int .i64 ((rd_T42 t697 x11_1).f0),.int .i64 ((rd_T42 t697 x11_1).f1)] 42 (0,0)) zz38 k_ hk⟩));(case aO=>exact (zR HO_3.out));(case aS=>exact (below_size zz28));(case aL=>have:=LMc24.out;omega);intro v707 w26 ho hb hg hat;rw [<-Ny706.out] at ho;replace HO_9:=ak_ (Kd.R_after (ok:=(fun k_=>k_≠gb701)) (zR (Kd.R_mono HO_9.out (fun _ hk=>⟨hk.2,hk.1⟩))) hg hat);replace BK701:=ak_ (blk_grown (g:=gb701) (o:=.cells #[.int .i64 ((rd_T42 t697 x11_1).f0),.int .i64 ((rd_T42 t697 x11_1).f1)] 42 (0,0)) zz38 hg (Kd.R_away HO_3.out (fun _ hk=>hk.2)));replace HB:=ak_ (hb);have HO708:=ak_ (ho);clear HO_3;clear ho hb hg hat)))
     go_roundg k2
     case measure=>have:=HK1.out;have:=HK2.out;omega
     case rel=>exact ⟨(y706),(wrap64 (x11_1 + 1)),zo,H',⟨zz5⟩,⟨zR (Kd.R_mono HO708.out (fun _ hk=>hk.1))⟩,⟨zR (Kd.R_mono HO_9.out (fun _ hk=>hk.2))⟩,⟨zz28⟩⟩
-- NOT PRINTED: function 67 (impl_labelsOf_1)
mutual
def impl_compareLists.l0:Nat->List Int->List Int->Int->Option (Int)
 | 0,_,_,_=>none
 | k + 1,x0,x1,x5=>if x5<(x0.length:Int) then (impl_compareLists.j1 k x0 x1 x5 (decide (x5<(x1.length:Int)))) else (impl_compareLists.j1 k x0 x1 x5 false)
def impl_compareLists.j1:Nat->List Int->List Int->Int->Bool->Option (Int)
 | 0,_,_,_,_=>none
 | k + 1,x0,x1,x5,x15=>if x15=true then (if 0<=x5 then (if x5<(x0.length:Int) then (if x5<(x1.length:Int) then (if (rd x0 x5)=(rd x1 x5) then (impl_compareLists.l0 k x0 x1 (wrap64 (x5 + 1))) else (some (wrap64 ((rd x0 x5) - (rd x1 x5))))) else (none)) else (none)) else (none)) else (some (wrap64 ((x0.length:Int) - (x1.length:Int))))
end
def impl_compareLists.f (k:Nat) (l0:List Int) (l1:List Int):Option (Int):=impl_compareLists.l0 k l0 l1 0
theorem impl_compareLists.calls (k:Nat) (A0:Option Addr) (c0:Nat) (l0:List Int) (A1:Option Addr) (c1:Nat) (l1:List Int) (r:Int) (w:World) (hr0:Kd.C (Kd.int .i64) w A0 l0.length l0) (hc0:l0.length<=c0) (hr1:Kd.C (Kd.int .i64) w A1 l1.length l1) (hc1:l1.length<=c1) (h:impl_compareLists.f k l0 l1=some r) :
  Calls Try.prog 68 #[.slice A0 l0.length c0,.slice A1 l1.length c1] w fun e w'=>e=.returned (.int .i64 r)/\Drawn0 w w':=by
 have HR0:=ak_ hr0;have HC0:=ak_ hc0;clear hr0 hc0;have HR1:=ak_ hr1;have HC1:=ak_ hc1;clear hr1 hc1;have H:(impl_compareLists.l0 k l0 l1 0)=some r:=h;clear h;have H':=ak_ H;clear H
 go_enter Try.func68,Try.ntmps68
 go_wp2
 repeat (go_quiet (fail))
 go_loopg [5] k (fun kq v5 w'=>∃ (x5_1:Int),v5=.int .i64 x5_1/\Aside0 (impl_compareLists.l0 kq l0 l1 x5_1=some r)/\Aside0 (kq<=k)/\Drawn0 w w')
 case atStart=>exact ⟨(0),zo,H',⟨Nat.le_refl _⟩,zz4⟩
 case round=>
  clear H';obtain ⟨x5_1,rfl,HA,HK1,⟨m1,rfl⟩⟩:=hrel;cases gk with
  | zero=>exact absurd HA.out (by simp [impl_compareLists.l0])
  | succ k1=>
   have H:=HA.out;clear HA;simp only [impl_compareLists.l0] at H;have HC3:=ak_ H;clear H
   go_upto_region 2 with (fail)
   repeat (go_quiet (fail);go_upto_region 2 with (fail))
   go_cut [15] (fun v15 wc=>∃ (kq:Nat) (x15_2:Bool),v15=.bool x15_2/\Aside0 (impl_compareLists.j1 kq l0 l1 x5_1 x15_2=some r)/\Aside0 (kq<=k1)/\Drawn0 w wc)
   case first=>
    have H:=HC3.out;clear HC3;replace H:=gND H;rcases H with ⟨c4b0,H⟩ | ⟨c4b0,H⟩
    ·skip
     have H':=ak_ H;clear H
     go_wp2
     repeat (go_quiet (fail))
     go_meet
     case rel=>exact ⟨_,(false),zo,H',⟨zz43⟩,zz4⟩
    have H':=ak_ H;clear H
    go_wp2
    repeat (go_quiet (fail))
    go_meet
    case rel=>exact ⟨_,(decide (x5_1<(l1.length:Int))),zo,H',⟨zz43⟩,zz4⟩
   case rest=>
    clear HC3;obtain ⟨kq,x15_2,rfl,HA,HJ2,⟨mc2,rfl⟩⟩:=hcut;cases kq with
    | zero=>exact absurd HA.out (by simp [impl_compareLists.j1])
    | succ kj2=>
     have H:=HA.out;clear HA;simp only [impl_compareLists.j1] at H;replace H:=gNB H;rcases H with ⟨rfl,H⟩ | ⟨rfl,H⟩
     ·obtain rfl:=oi_ H
      go_wp2
      repeat (go_quiet (fail))
      go_ret
      exact ⟨zz7,zz4⟩
     replace H:=gD H;obtain ⟨c6b0,H⟩:=H;replace H:=gD H;obtain ⟨c7b0,H⟩:=H;replace H:=gD H;obtain ⟨c8b0,H⟩:=H;replace H:=gP H;rcases H with ⟨c9,H⟩ | ⟨c9,H⟩
     ·have c9b0:((rd l0 x5_1) == (rd l1 x5_1))=true:=beq_iff_eq.mpr c9;have c9b1:((rd l0 x5_1) != (rd l1 x5_1))=false:=bne_eq_false_iff_eq.mpr c9;clear c9;have H':=ak_ H;clear H;obtain ⟨p709,q709,ad709,e709,hx709_0⟩:=ab_ (Kd.at_int HR0.out x5_1);cases e709;obtain ⟨p710,q710,ad710,e710,hx710_0⟩:=ab_ (Kd.at_int HR1.out x5_1);cases e710
      go_wp2
      repeat (go_quiet (fail);try go_wp2)
      go_roundg kj2
      case measure=>have:=HK1.out;have:=HJ2.out;omega
      case rel=>exact ⟨(wrap64 (x5_1 + 1)),zo,H',⟨by have:=HK1.out;have:=HJ2.out;omega⟩,zz4⟩
     have c9b0:((rd l0 x5_1) == (rd l1 x5_1))=false:=beq_eq_false_iff_ne.mpr c9;have c9b1:((rd l0 x5_1) != (rd l1 x5_1))=true:=bne_iff_ne.mpr c9;obtain rfl:=oi_ H;obtain ⟨p709,q709,ad709,e709,hx709_0⟩:=ab_ (Kd.at_int HR0.out x5_1);cases e709;obtain ⟨p710,q710,ad710,e710,hx710_0⟩:=ab_ (Kd.at_int HR1.out x5_1);cases e710;obtain ⟨p711,q711,ad711,e711,hx711_0⟩:=ab_ (Kd.at_int HR0.out x5_1);obtain rfl:ad709=ad711:=(by injection e711);obtain ⟨p712,q712,ad712,e712,hx712_0⟩:=ab_ (Kd.at_int HR1.out x5_1);obtain rfl:ad710=ad712:=(by injection e712)
     go_wp2
     repeat (go_quiet (fail);try go_wp2)
     go_ret
     exact ⟨zz7,zz4⟩
