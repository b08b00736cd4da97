import Derived.Test.YtndcbfifmafcoaaXFnTailsFirstx2
namespace Go.Proofs.Ytndcbfifmafcoaa.XFnTailsFirst
set_option maxRecDepth 100000
set_option maxHeartbeats 8000000
open Go.RowKit Go.Proofs.YtndcbfifmafcoaaW.PrintWords Go.Proofs.YtndcbfifmafcoaaW.PrintLast Go.Proofs.YtndcbfifmafcoaaW.PrintMore
set_option linter.unusedVariables false
set_option linter.unusedSimpArgs false
mutual
def spec_l1Cur_someJobs.j0:Nat->Bool->Int->List (S44)->Int->Bool->List Int->Int->Int->Option ((List (S44)) × Int × Int)
 | 0,_,_,_,_,_,_,_,_=>none
 | k + 1,x1,x2,x7,x8,x19,x1000,x1001,x1002=>if x19=true then ((spec_l1Cur_pick.f x1000 x1001 x1002 2).bind fun bt176=>(spec_l1Cur_someJobs.j1 k x1 x2 x7 (wrap64 (7 + bt176.1)) x1000 bt176.2.1 bt176.2.2)) else (spec_l1Cur_someJobs.j1 k x1 x2 x7 x8 x1000 x1001 x1002)
def spec_l1Cur_someJobs.j1:Nat->Bool->Int->List (S44)->Int->List Int->Int->Int->Option ((List (S44)) × Int × Int)
 | 0,_,_,_,_,_,_,_=>none
 | k + 1,x1,x2,x7,x8,x1000,x1001,x1002=>spec_l1Cur_someJobs.l0 k x1 x2 x7 x8 x1000 x1001 x1002
def spec_l1Cur_someJobs.j3:Nat->Bool->List (S44)->List Int->Int->Int->Option ((List (S44)) × Int × Int)
 | 0,_,_,_,_,_=>none
 | k + 1,x1,x7,x1000,x1001,x1002=>if (x7.length:Int)>0 then ((spec_l1Cur_one.f x1000 x1001 x1002 20).bind fun bt188=>(spec_l1Cur_someJobs.j4 k x1 x7 bt188.1 x1000 bt188.2.1 bt188.2.2)) else (spec_l1Cur_someJobs.j4 k x1 x7 false x1000 x1001 x1002)
def spec_l1Cur_someJobs.j4:Nat->Bool->List (S44)->Bool->List Int->Int->Int->Option ((List (S44)) × Int × Int)
 | 0,_,_,_,_,_,_=>none
 | k + 1,x1,x7,x45,x1000,x1001,x1002=>if x45=true then ((spec_l1Cur_pick.f x1000 x1001 x1002 (x7.length:Int)).bind fun bt191=>(if 0<=bt191.1 then (if bt191.1<(x7.length:Int) then ((spec_l1Cur_spoiltJob.f x1000 bt191.2.1 bt191.2.2 ((rd_T44 x7 bt191.1).f0) ((rd_T44 x7 bt191.1).f1) ((rd_T44 x7 bt191.1).f2) ((rd_T44 x7 bt191.1).f3)).bind fun bt195=>(spec_l1Cur_someJobs.j5 k x1 (x7.set (bt191.1:Int).toNat (⟨bt195.1,bt195.2.1,bt195.2.2.1,bt195.2.2.2.1⟩:S44)) x1000 bt195.2.2.2.2.1 bt195.2.2.2.2.2)) else (none)) else (none))) else (spec_l1Cur_someJobs.j5 k x1 x7 x1000 x1001 x1002)
def spec_l1Cur_someJobs.j5:Nat->Bool->List (S44)->List Int->Int->Int->Option ((List (S44)) × Int × Int)
 | 0,_,_,_,_,_=>none
 | k + 1,x1,x7,x1000,x1001,x1002=>(spec_l1Cur_one.f x1000 x1001 x1002 60).bind fun bt202=>(if bt202.1=true then (spec_l1Cur_someJobs.l1 k x1 x7 x1000 bt202.2.1 bt202.2.2) else (some (x7,bt202.2.1,bt202.2.2)))
def spec_l1Cur_someJobs.l1:Nat->Bool->List (S44)->List Int->Int->Int->Option ((List (S44)) × Int × Int)
 | 0,_,_,_,_,_=>none
 | k + 1,x1,x7,x1000,x1001,x1002=>if (x7.length:Int)<9 then ((spec_l1Cur_job.f x1000 x1001 x1002 x1).bind fun bt205=>(if x7.length<4398046511104 then (spec_l1Cur_someJobs.l1 k x1 (x7++[(⟨bt205.1,bt205.2.1,bt205.2.2.1,bt205.2.2.2.1⟩:S44)]) x1000 bt205.2.2.2.2.1 bt205.2.2.2.2.2) else (none))) else (some (x7,x1001,x1002))
def spec_l1Cur_someJobs.l0:Nat->Bool->Int->List (S44)->Int->List Int->Int->Int->Option ((List (S44)) × Int × Int)
 | 0,_,_,_,_,_,_,_=>none
 | k + 1,x1,x2,x7,x8,x1000,x1001,x1002=>if x8>0 then (if (x7.length:Int)<x2 then ((spec_l1Cur_job.f x1000 x1001 x1002 x1).bind fun bt179=>(if x7.length<4398046511104 then (spec_l1Cur_someJobs.l0 k x1 x2 (x7++[(⟨bt179.1,bt179.2.1,bt179.2.2.1,bt179.2.2.2.1⟩:S44)]) (wrap64 (x8 - 1)) x1000 bt179.2.2.2.2.1 bt179.2.2.2.2.2) else (none))) else (spec_l1Cur_someJobs.j3 k x1 x7 x1000 x1001 x1002)) else (spec_l1Cur_someJobs.j3 k x1 x7 x1000 x1001 x1002)
end
def spec_l1Cur_someJobs.f (k:Nat) (s0_0:List Int) (s0_1:Int) (s0_2:Int) (a1:Bool) (a2:Int):Option ((List (S44)) × Int × Int):=(some (([]:List (S44)):List (S44))).bind fun y164=>((spec_l1Cur_among.f s0_0 s0_1 s0_2 (([3,4,5,2,6,1,0]:List Int))).bind fun bt170=>(if a2>6 then ((spec_l1Cur_one.f s0_0 bt170.2.1 bt170.2.2 6).bind fun bt173=>(spec_l1Cur_someJobs.j0 k a1 a2 y164 bt170.1 bt173.1 s0_0 bt173.2.1 bt173.2.2)) else (spec_l1Cur_someJobs.j0 k a1 a2 y164 bt170.1 false s0_0 bt170.2.1 bt170.2.2)))
theorem spec_l1Cur_someJobs.calls (k:Nat) (g:Nat) (s0_0:List Int) (s0_1:Int) (s0_2:Int) (a1:Bool) (a2:Int) (r1:List (S44)) (r2:Int) (r3:Int) (w0 w:World) (hI:IsS51 w0 w g s0_0 s0_1 s0_2) (hB:Below w0.heap.size w0 w) (h:spec_l1Cur_someJobs.f k s0_0 s0_1 s0_2 a1 a2=some (r1,r2,r3)) :
  Calls Try.prog 81 #[.pointer (some ⟨g,0,none⟩),.bool a1,.int .i64 a2] w fun e w'=>∃ v0_:Value,e=.returned (v0_)/\Kd.R k44 44 w' w.heap.size (fun _=>True) v0_ r1/\IsS51 w0 w' g s0_0 r2 r3/\Below w0.heap.size w0 w'/\KeepBut w w' g none:=by
 have hu44:=Try.underlying44;have HI0:=ak_ hI;have HK:=ak_ (KeepBut.refl w g none);have HL:=ak_ hB.size;clear hI;have HW0:=ak_ hB.size;have HB:=ak_ hB;clear hB;have H:((some (([]:List (S44)):List (S44))).bind fun y164=>((spec_l1Cur_among.f s0_0 s0_1 s0_2 (([3,4,5,2,6,1,0]:List Int))).bind fun bt170=>(if a2>6 then ((spec_l1Cur_one.f s0_0 bt170.2.1 bt170.2.2 6).bind fun bt173=>(spec_l1Cur_someJobs.j0 k a1 a2 y164 bt170.1 bt173.1 s0_0 bt173.2.1 bt173.2.2)) else (spec_l1Cur_someJobs.j0 k a1 a2 y164 bt170.1 false s0_0 bt170.2.1 bt170.2.2))))=some (r1,r2,r3):=h;clear h;replace H:=gY H;obtain ⟨y164,Ny164,H⟩:=H;generalize hy167:(([3,4,5,2,6,1,0]:List Int):List Int)=y167 at H;have Ny167:=ak_ hy167.symm;clear hy167;replace H:=gT H;obtain ⟨⟨t170,t171,t172⟩,A4,H⟩:=H
 try dsimp only at H
 have HC5:=ak_ H;clear H
 go_enter Try.func81,Try.ntmps81
 go_upto_region 2 with (first|((with_reducible refine gate_dst (N:=10) rfl ?_);(try (refine gate_guard (by rfl) ?_;dsimp only));refine rl_ k44 44 (N:=10) (xs:=([]:List (S44))) (inner:=[]) (Reps.none _ _) ?_;intro v165 w6 ho7 hb hg_ hnew_;clear hg_ hnew_;(rw [<-Ny164.out] at ho7);have HO166:=ak_ (Kd.R_lower ho7 (keep_size (w:=w) (g:=g) (row:=none) zz0));replace HK:=ak_ (KeepBut.trans zz0 (KeepBut.of_below hb g none) (.inl rfl));replace HB:=ak_ (below_step zz2 hb);replace HI0:=ak_ (IsS51.below zz1 hb);clear hb ho7)|((with_reducible refine gate_dst (N:=12) rfl ?_);(try (refine gate_guard (by rfl) ?_;dsimp only));refine Kd.R_lit (Kd.int .i64) _ 3 ?hg (N:=12) ?hd (xs:=([3,4,5,2,6,1,0]:List Int)) (inner:=[.int .i64 3,.int .i64 4,.int .i64 5,.int .i64 2,.int .i64 6,.int .i64 1,.int .i64 0]) (ok:=fun _=>True) (okp:=fun _=>True) ?hr ?hp (fun _ hk=>hk) trivial (Below.refl _ _) (Nat.le_refl _) (by simp) ?_;(case hd=>rfl);(case hg=>rfl);(case hr=>(go_simp;done));(case hp=>exact (Reps.one (show Kd.M (Kd.int .i64) _ _ _ 3 [.int .i64 3] from rfl) (Reps.one (show Kd.M (Kd.int .i64) _ _ _ 4 [.int .i64 4] from rfl) (Reps.one (show Kd.M (Kd.int .i64) _ _ _ 5 [.int .i64 5] from rfl) (Reps.one (show Kd.M (Kd.int .i64) _ _ _ 2 [.int .i64 2] from rfl) (Reps.one (show Kd.M (Kd.int .i64) _ _ _ 6 [.int .i64 6] from rfl) (Reps.one (show Kd.M (Kd.int .i64) _ _ _ 1 [.int .i64 1] from rfl) (Reps.one (show Kd.M (Kd.int .i64) _ _ _ 0 [.int .i64 0] from rfl) (Reps.none _ _)))))))));intro v168 w8 ho9 hb hg_ hnew_;clear hg_ hnew_;(rw [<-Ny167.out] at ho9);replace HO166:=zRb HO166 hb;have HO169:=ak_ (Kd.R_lower ho9 (keep_size (w:=w) (g:=g) (row:=none) zz0));replace HK:=ak_ (KeepBut.trans zz0 (KeepBut.of_below hb g none) (.inl rfl));replace HB:=ak_ (below_step zz2 hb);replace HI0:=ak_ (IsS51.below zz1 hb);clear hb ho9;obtain ⟨Ao10,co10,eo10⟩:=Kd.R_slice HO169.out;subst eo10)|(refine zgo 13 Try.func40 #[.pointer (some ⟨g,0,none⟩),.slice Ao10 y167.length co10] ?_;(with_reducible refine (spec_l1Cur_among.calls g s0_0 s0_1 s0_2 _ _ y167 t170 t171 t172 w0 _ ?side1 ?side2 ?side3 ?side4 ?side5 A4.out).mono ?_);(case side1=>exact zz1);(case side2=>exact zz2);(case side3=>exact zC (r2_ HO169));(case side4=>exact r1_ HO169);(case side5=>exact far_slice (IsS51.own_ne HI0.out HO169.out (by decide)));rintro e w11 ⟨rfl,hi,hb,hk⟩;refine ⟨_,rfl,?_⟩;replace HO166:=ak_ (Kd.R_mono (Kd.R_keep (IsS51.apart HI0.out (zR HO166.out) (by decide)) hk (fun _ h=>h.2)) (fun _ h=>h.1));replace HO169:=ak_ (Kd.R_mono (Kd.R_keep (IsS51.apart HI0.out (zR HO169.out) (by decide)) hk (fun _ h=>h.2)) (fun _ h=>h.1));replace HK:=ak_ (KeepBut.trans zz0 hk (.inl rfl));replace HB:=ak_ (hb);replace HI0:=ak_ (hi);(try clear hb);(try clear hk);(try clear hi)))
 go_cut [19] (fun v19 wc=>∃ (kq:Nat) (x19_4:Bool) (x1001_4:Int) (x1002_4:Int),v19=.bool x19_4/\Aside0 (spec_l1Cur_someJobs.j0 kq a1 a2 y164 t170 x19_4 s0_0 x1001_4 x1002_4=some (r1,r2,r3))/\Aside0 (kq<=k)/\Aside0 (Kd.R k44 44 wc w.heap.size (fun _=>True) v165 y164)/\Aside0 (IsS51 w0 wc g s0_0 x1001_4 x1002_4)/\Aside0 (KeepBut w wc g none)/\Aside0 (Below w0.heap.size w0 wc))
 case first=>
  have H:=HC5.out;clear HC5;replace H:=gND H;rcases H with ⟨c12b0,H⟩ | ⟨c12b0,H⟩
  ·skip
   have H':=ak_ H;clear H
   go_wp2
   go_meet
   case rel=>exact ⟨_,(false),(t171),(t172),zo,H',⟨zz19⟩,⟨zR HO166.out⟩,⟨zz1⟩,⟨zz0⟩,⟨zz2⟩⟩
  replace H:=gT H;obtain ⟨⟨t173,t174,t175⟩,A13,H⟩:=H
  try dsimp only at H
  have H':=ak_ H;clear H
  go_wp2_with ((go_at_call 22;(with_reducible refine (spec_l1Cur_one.calls g s0_0 t171 t172 6 t173 t174 t175 w0 _ ?side1 ?side2 A13.out).mono ?_);(case side1=>exact zz1);(case side2=>exact zz2);rintro e w14 ⟨rfl,hi,hb,hk⟩;replace HO166:=ak_ (Kd.R_mono (Kd.R_keep (IsS51.apart HI0.out (zR HO166.out) (by decide)) hk (fun _ h=>h.2)) (fun _ h=>h.1));replace HO169:=ak_ (Kd.R_mono (Kd.R_keep (IsS51.apart HI0.out (zR HO169.out) (by decide)) hk (fun _ h=>h.2)) (fun _ h=>h.1));replace HK:=ak_ (KeepBut.trans zz0 hk (.inl rfl));replace HB:=ak_ (hb);replace HI0:=ak_ (hi);(try clear hb);(try clear hk);(try clear hi)))
  go_meet
  case rel=>exact ⟨_,(t173),(t174),(t175),zo,H',⟨zz19⟩,⟨zR HO166.out⟩,⟨zz1⟩,⟨zz0⟩,⟨zz2⟩⟩
 case rest=>
  clear HC5;obtain ⟨kq,x19_4,x1001_4,x1002_4,rfl,HA,HJ4,HO_7,HI0,HK,HB⟩:=hcut;cases kq with
  | zero=>exact absurd HA.out (by simp [spec_l1Cur_someJobs.j0])
  | succ kj4=>
   have H:=HA.out;clear HA;simp only [spec_l1Cur_someJobs.j0] at H;have HC15:=ak_ H;clear H
   go_upto_if 19 with (fail)
   go_cut [8] (fun v8 wc=>∃ (kq:Nat) (x8_14:Int) (x1001_14:Int) (x1002_14:Int),v8=.int .i64 x8_14/\Aside0 (spec_l1Cur_someJobs.j1 kq a1 a2 y164 x8_14 s0_0 x1001_14 x1002_14=some (r1,r2,r3))/\Aside0 (kq<=kj4)/\Aside0 (Kd.R k44 44 wc w.heap.size (fun _=>True) v165 y164)/\Aside0 (IsS51 w0 wc g s0_0 x1001_14 x1002_14)/\Aside0 (KeepBut w wc g none)/\Aside0 (Below w0.heap.size w0 wc))
   case first=>
    have H:=HC15.out;clear HC15;replace H:=gNB H;rcases H with ⟨rfl,H⟩ | ⟨rfl,H⟩
    ·have H':=ak_ H;clear H
     go_wp2
     go_meet
     case rel=>exact ⟨_,(t170),(x1001_4),(x1002_4),zo,H',⟨by have:=HJ4.out;omega⟩,⟨zR HO_7.out⟩,⟨zz1⟩,⟨zz0⟩,⟨zz2⟩⟩
    replace H:=gT H;obtain ⟨⟨t176,t177,t178⟩,A17,H⟩:=H
    try dsimp only at H
    have H':=ak_ H;clear H
    go_wp2_with ((refine zgo 21 Try.func25 #[.pointer (some ⟨g,0,none⟩),.int .i64 2] ?_;(with_reducible refine (spec_l1Cur_pick.calls g s0_0 x1001_4 x1002_4 2 t176 t177 t178 w0 _ ?side1 ?side2 A17.out).mono ?_);(case side1=>exact zz1);(case side2=>exact zz2);rintro e w18 ⟨rfl,hi,hb,hk⟩;refine ⟨_,rfl,?_⟩;replace HO_7:=ak_ (Kd.R_mono (Kd.R_keep (IsS51.apart HI0.out (zR HO_7.out) (by decide)) hk (fun _ h=>h.2)) (fun _ h=>h.1));replace HK:=ak_ (KeepBut.trans zz0 hk (.inl rfl));replace HB:=ak_ (hb);replace HI0:=ak_ (hi);(try clear hb);(try clear hk);(try clear hi)))
    go_meet
    case rel=>exact ⟨_,(wrap64 (7 + t176)),(t177),(t178),zo,H',⟨by have:=HJ4.out;omega⟩,⟨zR HO_7.out⟩,⟨zz1⟩,⟨zz0⟩,⟨zz2⟩⟩
   case rest=>
    clear HC15;obtain ⟨kq,x8_14,x1001_14,x1002_14,rfl,HA,HJ14,HO_7,HI0,HK,HB⟩:=hcut;cases kq with
    | zero=>exact absurd HA.out (by simp [spec_l1Cur_someJobs.j1])
    | succ kj14=>
     have H:=HA.out;clear HA;simp only [spec_l1Cur_someJobs.j1] at H;have HC19:=ak_ H;clear H
     go_upto_block 0 with (fail)
     go_cut [7] (fun v7 wc=>∃ (kq:Nat) (x7_18:List (S44)) (x1001_18:Int) (x1002_18:Int),Aside0 (spec_l1Cur_someJobs.j3 kq a1 x7_18 s0_0 x1001_18 x1002_18=some (r1,r2,r3))/\Aside0 (kq<=kj14)/\Aside0 (Kd.R k44 44 wc w.heap.size (fun _=>True) v7 x7_18)/\Aside0 (IsS51 w0 wc g s0_0 x1001_18 x1002_18)/\Aside0 (KeepBut w wc g none)/\Aside0 (Below w0.heap.size w0 wc))
     case first=>
      have H:=HC19.out;clear HC19;have H':=ak_ H;clear H
      go_wp2
      go_loopg [7,8] kj14 (fun kq v7 v8 w'=>∃ (x7_3:List (S44)) (x8_3:Int) (x1001_3:Int) (x1002_3:Int),v8=.int .i64 x8_3/\Aside0 (spec_l1Cur_someJobs.l0 kq a1 a2 x7_3 x8_3 s0_0 x1001_3 x1002_3=some (r1,r2,r3))/\Aside0 (kq<=kj14)/\Aside0 (Kd.R k44 44 w' w.heap.size (fun _=>True) v7 x7_3)/\Aside0 (IsS51 w0 w' g s0_0 x1001_3 x1002_3)/\Aside0 (KeepBut w w' g none)/\Aside0 (Below w0.heap.size w0 w'))
      case atStart=>exact ⟨(y164),(x8_14),(x1001_14),(x1002_14),zo,H',⟨Nat.le_refl _⟩,⟨zR HO_7.out⟩,⟨zz1⟩,⟨zz0⟩,⟨zz2⟩⟩
      case round=>
       clear H';obtain ⟨x7_3,x8_3,x1001_3,x1002_3,rfl,HA,HK3,HO_7,HI0,HK,HB⟩:=hrel;cases gk with
       | zero=>exact absurd HA.out (by simp [spec_l1Cur_someJobs.l0])
       | succ k3=>
        have H:=HA.out;clear HA;simp only [spec_l1Cur_someJobs.l0] at H;replace H:=gND H;rcases H with ⟨c20b0,H⟩ | ⟨c20b0,H⟩
        ·skip
         have H':=ak_ H;clear H
         go_wp2
         go_meet
         case rel=>exact ⟨_,(x7_3),(x1001_3),(x1002_3),H',⟨by have:=HJ4.out;have:=HJ14.out;have:=HK3.out;omega⟩,⟨zR HO_7.out⟩,⟨zz1⟩,⟨zz0⟩,⟨zz2⟩⟩
        replace H:=gND H;rcases H with ⟨c21b0,H⟩ | ⟨c21b0,H⟩
        ·have H':=ak_ H;clear H;obtain ⟨Ao27,co27,rfl⟩:=Kd.R_slice HO_7.out
         go_wp2
         go_meet
         case rel=>exact ⟨_,(x7_3),(x1001_3),(x1002_3),H',⟨by have:=HJ4.out;have:=HJ14.out;have:=HK3.out;omega⟩,⟨zR HO_7.out⟩,⟨zz1⟩,⟨zz0⟩,⟨zz2⟩⟩
        replace H:=gT H;obtain ⟨⟨t179,t180,t181,t182,t183,t184⟩,A22,H⟩:=H
        try dsimp only at H
        replace H:=gL H;obtain ⟨LMc23,H⟩:=H;generalize hy185:(x7_3++[(⟨t179,t180,t181,t182⟩:S44)]:List (S44))=y185 at H;have Ny185:=ak_ hy185.symm;clear hy185;have H':=ak_ H;clear H;obtain ⟨Ao24,co24,rfl⟩:=Kd.R_slice HO_7.out
        go_wp2_with (first|(refine zgo 36 Try.func83 #[.pointer (some ⟨g,0,none⟩),.bool a1] ?_;(with_reducible refine (spec_l1Cur_job.calls g s0_0 x1001_3 x1002_3 a1 t179 t180 t181 t182 t183 t184 w0 _ ?side1 ?side2 A22.out).mono ?_);(case side1=>exact zz1);(case side2=>exact zz2);rintro e w25 ⟨rfl,hi,hb,hk⟩;refine ⟨_,rfl,?_⟩;replace HO_7:=ak_ (Kd.R_mono (Kd.R_keep (IsS51.apart HI0.out (zR HO_7.out) (by decide)) hk (fun _ h=>h.2)) (fun _ h=>h.1));replace HK:=ak_ (KeepBut.trans zz0 hk (.inl rfl));replace HB:=ak_ (hb);replace HI0:=ak_ (hi);(try clear hb);(try clear hk);(try clear hi))|((with_reducible refine gate_builtin (b:=.append) (xs:=#[.tmp 33,.tmp 37]) rfl ?_);(try (refine gate_guard (by rfl) ?_;dsimp only));at_builtin;refine Kd.R_append k44 w.heap.size rfl (.tmp 33) (.tmp 37) 24 44 (.agg #[(.int .i64 0),(.int .i64 0),(.int .i64 0),(.int .i64 0)]) 32 rfl Try.underlying24 info44 rfl (by decide) (by omega) (.slice Ao24 x7_3.length co24) x7_3 (⟨t179,t180,t181,t182⟩:S44) [.int .i64 t179,.int .i64 t180,.int .i64 t181,.int .i64 t182] (fun _=>True) (fun _=>False) rfl rfl ?aP (fun _ hk=>hk.elim) ?aF ?aO (Below.refl _ _) ?aS ?aL ?_;(case aP=>exact k44_mkM _ _ _ (⟨t179,t180,t181,t182⟩:S44));(case aF=>exact (fun _ _=>trivial));(case aO=>exact (zR HO_7.out));(case aS=>exact (keep_size (w:=w) (g:=g) (row:=none) zz0));(case aL=>have:=LMc23.out;omega);intro v186 w26 ho hb hg hat;rw [<-Ny185.out] at ho;replace HB:=ak_ (below_weaken zz2 HL.out hb);replace HI0:=ak_ (IsS51.grown zz1 hg (IsS51.own_ne HI0.out HO_7.out (by decide)));replace HK:=ak_ (KeepBut.trans zz0 (KeepBut.of_grown hg g) (Kd.R_base2 HO_7.out));have HO187:=ak_ (ho);clear HO_7;clear ho hb hg hat))
        go_roundg k3
        case measure=>have:=HJ4.out;have:=HJ14.out;have:=HK3.out;omega
        case rel=>exact ⟨(y185),(wrap64 (x8_3 - 1)),(t183),(t184),zo,H',⟨by have:=HJ4.out;have:=HJ14.out;have:=HK3.out;omega⟩,⟨zR HO187.out⟩,⟨zz1⟩,⟨zz0⟩,⟨zz2⟩⟩
     case rest=>
      clear HC19;obtain ⟨kq,x7_18,x1001_18,x1002_18,HA,HJ18,HO_7,HI0,HK,HB⟩:=hcut;cases kq with
      | zero=>exact absurd HA.out (by simp [spec_l1Cur_someJobs.j3])
      | succ kj18=>
       have H:=HA.out;clear HA;simp only [spec_l1Cur_someJobs.j3] at H;have HC28:=ak_ H;clear H
       go_upto_region 7 with (fail)
       go_cut [45] (fun v45 wc=>∃ (kq:Nat) (x45_27:Bool) (x1001_27:Int) (x1002_27:Int),v45=.bool x45_27/\Aside0 (spec_l1Cur_someJobs.j4 kq a1 x7_18 x45_27 s0_0 x1001_27 x1002_27=some (r1,r2,r3))/\Aside0 (kq<=kj18)/\Aside0 (Kd.R k44 44 wc w.heap.size (fun _=>True) u7 x7_18)/\Aside0 (IsS51 w0 wc g s0_0 x1001_27 x1002_27)/\Aside0 (KeepBut w wc g none)/\Aside0 (Below w0.heap.size w0 wc))
       case first=>
        have H:=HC28.out;clear HC28;replace H:=gN H;rcases H with ⟨c29,H⟩ | ⟨c29,H⟩
        ·have c29b0:=decide_eq_false c29;have c29b1:decide (0<x7_18.length)=false:=decide_eq_false (by omega);clear c29;have H':=ak_ H;clear H;obtain ⟨Ao33,co33,rfl⟩:=Kd.R_slice HO_7.out
         go_wp2
         go_meet
         case rel=>exact ⟨_,(false),(x1001_18),(x1002_18),zo,H',⟨by have:=HJ4.out;have:=HJ14.out;have:=HJ18.out;omega⟩,⟨zR HO_7.out⟩,⟨zz1⟩,⟨zz0⟩,⟨zz2⟩⟩
        have c29b0:=decide_eq_true c29;have c29b1:decide (0<x7_18.length)=true:=decide_eq_true (by omega);clear c29;replace H:=gT H;obtain ⟨⟨t188,t189,t190⟩,A30,H⟩:=H
        try dsimp only at H
        have H':=ak_ H;clear H;obtain ⟨Ao31,co31,rfl⟩:=Kd.R_slice HO_7.out
        go_wp2_with ((go_at_call 22;(with_reducible refine (spec_l1Cur_one.calls g s0_0 x1001_18 x1002_18 20 t188 t189 t190 w0 _ ?side1 ?side2 A30.out).mono ?_);(case side1=>exact zz1);(case side2=>exact zz2);rintro e w32 ⟨rfl,hi,hb,hk⟩;replace HO_7:=ak_ (Kd.R_mono (Kd.R_keep (IsS51.apart HI0.out (zR HO_7.out) (by decide)) hk (fun _ h=>h.2)) (fun _ h=>h.1));replace HK:=ak_ (KeepBut.trans zz0 hk (.inl rfl));replace HB:=ak_ (hb);replace HI0:=ak_ (hi);(try clear hb);(try clear hk);(try clear hi)))
        go_meet
        case rel=>exact ⟨_,(t188),(t189),(t190),zo,H',⟨by have:=HJ4.out;have:=HJ14.out;have:=HJ18.out;omega⟩,⟨zR HO_7.out⟩,⟨zz1⟩,⟨zz0⟩,⟨zz2⟩⟩
       case rest=>
        clear HC28;obtain ⟨kq,x45_27,x1001_27,x1002_27,rfl,HA,HJ27,HO_7,HI0,HK,HB⟩:=hcut;cases kq with
        | zero=>exact absurd HA.out (by simp [spec_l1Cur_someJobs.j4])
        | succ kj27=>
         have H:=HA.out;clear HA;simp only [spec_l1Cur_someJobs.j4] at H;have HC34:=ak_ H;clear H
         go_upto_if 45 with (fail)
         go_cut [] (fun wc=>∃ (kq:Nat) (x7_33:List (S44)) (x1001_33:Int) (x1002_33:Int),Aside0 (spec_l1Cur_someJobs.j5 kq a1 x7_33 s0_0 x1001_33 x1002_33=some (r1,r2,r3))/\Aside0 (kq<=kj27)/\Aside0 (Kd.R k44 44 wc w.heap.size (fun _=>True) u7 x7_33)/\Aside0 (IsS51 w0 wc g s0_0 x1001_33 x1002_33)/\Aside0 (KeepBut w wc g none)/\Aside0 (Below w0.heap.size w0 wc))
         case first=>
          have H:=HC34.out;clear HC34;replace H:=gNB H;rcases H with ⟨rfl,H⟩ | ⟨rfl,H⟩
          ·have H':=ak_ H;clear H
           go_wp2
           go_meet
           case rel=>exact ⟨_,(x7_18),(x1001_27),(x1002_27),H',⟨by have:=HJ4.out;have:=HJ14.out;have:=HJ18.out;have:=HJ27.out;omega⟩,⟨zR HO_7.out⟩,⟨zz1⟩,⟨zz0⟩,⟨zz2⟩⟩
          replace H:=gT H;obtain ⟨⟨t191,t192,t193⟩,A36,H⟩:=H
          try dsimp only at H
          replace H:=gD H;obtain ⟨c37b0,H⟩:=H;replace H:=gD H;obtain ⟨c38b0,H⟩:=H;replace H:=gT H;obtain ⟨⟨t195,t196,t197,t198,t199,t200⟩,A39,H⟩:=H
          try dsimp only at H
          generalize hy201:(x7_18.set (t191:Int).toNat (⟨t195,t196,t197,t198⟩:S44):List (S44))=y201 at H;have Ny201:=ak_ hy201.symm;clear hy201;have H':=ak_ H;clear H;obtain ⟨Ao41,co41,rfl⟩:=Kd.R_slice HO_7.out
          go_wp2_with (first|(refine zgo 49 Try.func25 #[.pointer (some ⟨g,0,none⟩),.int .i64 (x7_18.length:Int)] ?_;(with_reducible refine (spec_l1Cur_pick.calls g s0_0 x1001_27 x1002_27 (x7_18.length:Int) t191 t192 t193 w0 _ ?side1 ?side2 A36.out).mono ?_);(case side1=>exact zz1);(case side2=>exact zz2);rintro e w42 ⟨rfl,hi,hb,hk⟩;refine ⟨_,rfl,?_⟩;replace HO_7:=ak_ (Kd.R_mono (Kd.R_keep (IsS51.apart HI0.out (zR HO_7.out) (by decide)) hk (fun _ h=>h.2)) (fun _ h=>h.1));replace HK:=ak_ (KeepBut.trans zz0 hk (.inl rfl));replace HB:=ak_ (hb);replace HI0:=ak_ (hi);(try clear hb);(try clear hk);(try clear hi);have p194:0<=(t191:Int):=oz_;have q194:t191<(x7_18.length:Int):=oz_;obtain ⟨ad194,e194,hx194_0,hx194_1,hx194_2,hx194_3⟩:=at_T44 (r2_ HO_7) t191 p194 q194;cases e194;replace p194:=eq_true p194;replace q194:=eq_true q194)|(refine zgo 57 Try.func84 #[.pointer (some ⟨g,0,none⟩),.agg #[.int .i64 ((rd_T44 x7_18 t191).f0),.int .i64 ((rd_T44 x7_18 t191).f1),.int .i64 ((rd_T44 x7_18 t191).f2),.int .i64 ((rd_T44 x7_18 t191).f3)]] ?_;(with_reducible refine (spec_l1Cur_spoiltJob.calls g s0_0 t192 t193 ((rd_T44 x7_18 t191).f0) ((rd_T44 x7_18 t191).f1) ((rd_T44 x7_18 t191).f2) ((rd_T44 x7_18 t191).f3) t195 t196 t197 t198 t199 t200 w0 _ ?side1 ?side2 A39.out).mono ?_);(case side1=>exact zz1);(case side2=>exact zz2);rintro e w43 ⟨rfl,hi,hb,hk⟩;refine ⟨_,rfl,?_⟩;replace HO_7:=ak_ (Kd.R_mono (Kd.R_keep (IsS51.apart HI0.out (zR HO_7.out) (by decide)) hk (fun _ h=>h.2)) (fun _ h=>h.1));replace HK:=ak_ (KeepBut.trans zz0 hk (.inl rfl));replace HB:=ak_ (hb);replace HI0:=ak_ (hi);(try clear hb);(try clear hk);(try clear hi);have p40:0<=(t191:Int):=oz_;have q40:(t191:Int)<((x7_18.length:Int):Int):=oz_;obtain ⟨go40,co40,eo40,gb40,gl40,cl40,HG40⟩:=Kd.R_form HO_7.out (by omega);(cases eo40);have GB40:=ak_ gb40;have GG40:=ak_ HG40;clear gb40 gl40 HG40;(simp only [add_plain] at hx194_0);(simp only [add_plain] at hx194_1);(simp only [add_plain] at hx194_2);(simp only [add_plain] at hx194_3);obtain ⟨ce40,hcl40,hM40,hcc40,hfr40⟩:=Kd.R_elem HO_7.out z44 (t191:Int) p40 q40;obtain rfl:=k44_openM hM40;have hx40_0:w43.cell? ⟨go40,(t191:Int).toNat * 4,none⟩=some (.int .i64 ((rd_T44 x7_18 t191).f0)):=hcc40 0 _ rfl;have hx40_1:w43.cell? ⟨go40,(t191:Int).toNat * 4 + 1,none⟩=some (.int .i64 ((rd_T44 x7_18 t191).f1)):=hcc40 1 _ rfl;have hx40_2:w43.cell? ⟨go40,(t191:Int).toNat * 4 + 2,none⟩=some (.int .i64 ((rd_T44 x7_18 t191).f2)):=hcc40 2 _ rfl;have hx40_3:w43.cell? ⟨go40,(t191:Int).toNat * 4 + 3,none⟩=some (.int .i64 ((rd_T44 x7_18 t191).f3)):=hcc40 3 _ rfl;have hf40_0:w43.frozen? ⟨go40,(t191:Int).toNat * 4,none⟩=false:=hfr40 0;have hf40_1:w43.frozen? ⟨go40,(t191:Int).toNat * 4 + 1,none⟩=false:=hfr40 1;have hf40_2:w43.frozen? ⟨go40,(t191:Int).toNat * 4 + 2,none⟩=false:=hfr40 2;have hf40_3:w43.frozen? ⟨go40,(t191:Int).toNat * 4 + 3,none⟩=false:=hfr40 3;(clear hcl40 hcc40 hfr40;(try clear hM40));replace p40:=eq_true p40;replace q40:=eq_true q40;have HX44:=ak_ (show Kd.R k44 44 w43 w.heap.size (fun _=>True) (.slice (some ⟨go40,0,none⟩) x7_18.length co41) x7_18 from (zR HO_7.out));obtain ⟨ce44,hcl44,hM44,hcc44,hfr44⟩:=Kd.R_elem HX44.out z44 (t191:Int) (oz_) (by have h_:(t191:Int)<((x7_18.length:Int):Int):=oz_;exact h_);obtain rfl:=k44_openM hM44;have HP44:=Kd.R_seg HX44.out (t191:Int) (oz_) (by have h_:(t191:Int)<((x7_18.length:Int):Int):=oz_;exact h_) (seg:=[.int .i64 t195,.int .i64 t196,.int .i64 t197,.int .i64 t198]) (j:=0) hcl44 hcc44 (show 4<=4 from by decide) (x':=(⟨t195,t196,t197,t198⟩:S44)) (k44_mkM _ _ _ (⟨t195,t196,t197,t198⟩:S44)) (fun _ hk=>hk);have hx44_0:=hcc44 0 _ rfl;(try simp only [show (k44).sz=4 from rfl,Nat.mul_one,Nat.add_zero] at hx44_0);have hf44_0:=hfr44 0;(try simp only [show (k44).sz=4 from rfl,Nat.mul_one,Nat.add_zero] at hf44_0);have hx44_1:=hcc44 1 _ rfl;(try simp only [show (k44).sz=4 from rfl,Nat.mul_one,Nat.add_zero] at hx44_1);have hf44_1:=hfr44 1;(try simp only [show (k44).sz=4 from rfl,Nat.mul_one,Nat.add_zero] at hf44_1);have hx44_2:=hcc44 2 _ rfl;(try simp only [show (k44).sz=4 from rfl,Nat.mul_one,Nat.add_zero] at hx44_2);have hf44_2:=hfr44 2;(try simp only [show (k44).sz=4 from rfl,Nat.mul_one,Nat.add_zero] at hf44_2);have hx44_3:=hcc44 3 _ rfl;(try simp only [show (k44).sz=4 from rfl,Nat.mul_one,Nat.add_zero] at hx44_3);have hf44_3:=hfr44 3;(try simp only [show (k44).sz=4 from rfl,Nat.mul_one,Nat.add_zero] at hf44_3);(clear hcl44 hcc44 hfr44;(try clear hM44)))|((with_reducible refine gate_store (t:=44) (p:=58) rfl ?_);refine store_event (t:=44) (p:=58) (v:=?vo_w45) (w1:=((((w43.setCell ⟨go40,(t191:Int).toNat * 4,none⟩ (.int .i64 t195)).setCell ⟨go40,(t191:Int).toNat * 4 + 1,none⟩ (.int .i64 t196)).setCell ⟨go40,(t191:Int).toNat * 4 + 2,none⟩ (.int .i64 t197)).setCell ⟨go40,(t191:Int).toNat * 4 + 3,none⟩ (.int .i64 t198))) ?hg ?ho ?hn ?hr ?_;(case ho=>rfl);(case hg=>rfl);(case hn=>rfl);(case hr=>(go_simp;done));intro w45 hw;have hg:w43.grownBy w45 (some go40):=(by rw [hw];exact HP44.2);have hp_:Kd.R k44 44 w45 w.heap.size (fun _=>True) (.slice (some ⟨go40,0,none⟩) x7_18.length co41) y201:=(by rw [hw,Ny201.out];exact HP44.1);clear HP44;replace HI0:=ak_ (IsS51.grown zz1 hg (IsS51.own_ne HI0.out HO_7.out (by decide)));replace HB:=ak_ ((by rw [hw];exact below_set (below_set (below_set (below_set (HB.out) (Nat.le_trans HL.out GB40.out)) (Nat.le_trans HL.out GB40.out)) (Nat.le_trans HL.out GB40.out)) (Nat.le_trans HL.out GB40.out):Below w0.heap.size w0 w45));replace HK:=ak_ (KeepBut.trans zz0 (KeepBut.of_grown hg g) (Kd.R_base2 HO_7.out));replace HO_7:=ak_ (hp_);clear hg hw hp_))
          go_meet
          case rel=>exact ⟨_,(y201),(t199),(t200),H',⟨by have:=HJ4.out;have:=HJ14.out;have:=HJ18.out;have:=HJ27.out;omega⟩,⟨zR HO_7.out⟩,⟨zz1⟩,⟨zz0⟩,⟨zz2⟩⟩
         case rest=>
          clear HC34;obtain ⟨kq,x7_33,x1001_33,x1002_33,HA,HJ33,HO_7,HI0,HK,HB⟩:=hcut;cases kq with
          | zero=>exact absurd HA.out (by simp [spec_l1Cur_someJobs.j5])
          | succ kj33=>
           have H:=HA.out;clear HA;simp only [spec_l1Cur_someJobs.j5] at H;replace H:=gT H;obtain ⟨⟨t202,t203,t204⟩,A46,H⟩:=H
           try dsimp only at H
           replace H:=gNB H;rcases H with ⟨rfl,H⟩ | ⟨rfl,H⟩
           ·simp only [Option.some.injEq,Prod.mk.injEq] at H;obtain ⟨rfl,rfl,rfl⟩:=H
            go_wp2_with ((refine zgo 60 Try.func22 #[.pointer (some ⟨g,0,none⟩),.int .i64 60] ?_;(with_reducible refine (spec_l1Cur_one.calls g s0_0 x1001_33 x1002_33 60 false t203 t204 w0 _ ?side1 ?side2 A46.out).mono ?_);(case side1=>exact zz1);(case side2=>exact zz2);rintro e w56 ⟨rfl,hi,hb,hk⟩;refine ⟨_,rfl,?_⟩;replace HO_7:=ak_ (Kd.R_mono (Kd.R_keep (IsS51.apart HI0.out (zR HO_7.out) (by decide)) hk (fun _ h=>h.2)) (fun _ h=>h.1));replace HK:=ak_ (KeepBut.trans zz0 hk (.inl rfl));replace HB:=ak_ (hb);replace HI0:=ak_ (hi);(try clear hb);(try clear hk);(try clear hi)))
            go_ret
            exact ⟨_,zz3,zR HO_7.out,zz1,zz2,zz0⟩
           have H':=ak_ H;clear H
           go_wp2_with ((refine zgo 60 Try.func22 #[.pointer (some ⟨g,0,none⟩),.int .i64 60] ?_;(with_reducible refine (spec_l1Cur_one.calls g s0_0 x1001_33 x1002_33 60 true t203 t204 w0 _ ?side1 ?side2 A46.out).mono ?_);(case side1=>exact zz1);(case side2=>exact zz2);rintro e w48 ⟨rfl,hi,hb,hk⟩;refine ⟨_,rfl,?_⟩;replace HO_7:=ak_ (Kd.R_mono (Kd.R_keep (IsS51.apart HI0.out (zR HO_7.out) (by decide)) hk (fun _ h=>h.2)) (fun _ h=>h.1));replace HK:=ak_ (KeepBut.trans zz0 hk (.inl rfl));replace HB:=ak_ (hb);replace HI0:=ak_ (hi);(try clear hb);(try clear hk);(try clear hi)))
           try simp only [Act.put,List.setIfInBounds_toArray,List.set_cons_succ,List.set_cons_zero]
           go_loopg [7] kj33 (fun kq v7 w'=>∃ (x7_6:List (S44)) (x1001_6:Int) (x1002_6:Int),Aside0 (spec_l1Cur_someJobs.l1 kq a1 x7_6 s0_0 x1001_6 x1002_6=some (r1,r2,r3))/\Aside0 (kq<=kj33)/\Aside0 (Kd.R k44 44 w' w.heap.size (fun _=>True) v7 x7_6)/\Aside0 (IsS51 w0 w' g s0_0 x1001_6 x1002_6)/\Aside0 (KeepBut w w' g none)/\Aside0 (Below w0.heap.size w0 w'))
           case atStart=>exact ⟨(x7_33),(t203),(t204),H',⟨Nat.le_refl _⟩,⟨zR HO_7.out⟩,⟨zz1⟩,⟨zz0⟩,⟨zz2⟩⟩
           case round=>
            clear H';obtain ⟨x7_6,x1001_6,x1002_6,HA,HK6,HO_7,HI0,HK,HB⟩:=hrel;cases gk with
            | zero=>exact absurd HA.out (by simp [spec_l1Cur_someJobs.l1])
            | succ k6=>
             have H:=HA.out;clear HA;simp only [spec_l1Cur_someJobs.l1] at H;replace H:=gN H;rcases H with ⟨c49,H⟩ | ⟨c49,H⟩
             ·have c49b0:=decide_eq_false c49;have c49b1:decide (x7_6.length<9)=false:=decide_eq_false (by omega);clear c49;simp only [Option.some.injEq,Prod.mk.injEq] at H;obtain ⟨rfl,rfl,rfl⟩:=H;obtain ⟨Ao55,co55,rfl⟩:=Kd.R_slice HO_7.out
              go_wp2
              go_ret
              exact ⟨_,zz3,zR HO_7.out,zz1,zz2,zz0⟩
             have c49b0:=decide_eq_true c49;have c49b1:decide (x7_6.length<9)=true:=decide_eq_true (by omega);clear c49;replace H:=gT H;obtain ⟨⟨t205,t206,t207,t208,t209,t210⟩,A50,H⟩:=H
             try dsimp only at H
             replace H:=gL H;obtain ⟨LMc51,H⟩:=H;generalize hy211:(x7_6++[(⟨t205,t206,t207,t208⟩:S44)]:List (S44))=y211 at H;have Ny211:=ak_ hy211.symm;clear hy211;have H':=ak_ H;clear H;obtain ⟨Ao52,co52,rfl⟩:=Kd.R_slice HO_7.out
             go_wp2_with (first|(refine zgo 67 Try.func83 #[.pointer (some ⟨g,0,none⟩),.bool a1] ?_;(with_reducible refine (spec_l1Cur_job.calls g s0_0 x1001_6 x1002_6 a1 t205 t206 t207 t208 t209 t210 w0 _ ?side1 ?side2 A50.out).mono ?_);(case side1=>exact zz1);(case side2=>exact zz2);rintro e w53 ⟨rfl,hi,hb,hk⟩;refine ⟨_,rfl,?_⟩;replace HO_7:=ak_ (Kd.R_mono (Kd.R_keep (IsS51.apart HI0.out (zR HO_7.out) (by decide)) hk (fun _ h=>h.2)) (fun _ h=>h.1));replace HK:=ak_ (KeepBut.trans zz0 hk (.inl rfl));replace HB:=ak_ (hb);replace HI0:=ak_ (hi);(try clear hb);(try clear hk);(try clear hi))|((with_reducible refine gate_builtin (b:=.append) (xs:=#[.tmp 64,.tmp 68]) rfl ?_);(try (refine gate_guard (by rfl) ?_;dsimp only));at_builtin;refine Kd.R_append k44 w.heap.size rfl (.tmp 64) (.tmp 68) 24 44 (.agg #[(.int .i64 0),(.int .i64 0),(.int .i64 0),(.int .i64 0)]) 32 rfl Try.underlying24 info44 rfl (by decide) (by omega) (.slice Ao52 x7_6.length co52) x7_6 (⟨t205,t206,t207,t208⟩:S44) [.int .i64 t205,.int .i64 t206,.int .i64 t207,.int .i64 t208] (fun _=>True) (fun _=>False) rfl rfl ?aP (fun _ hk=>hk.elim) ?aF ?aO (Below.refl _ _) ?aS ?aL ?_;(case aP=>exact k44_mkM _ _ _ (⟨t205,t206,t207,t208⟩:S44));(case aF=>exact (fun _ _=>trivial));(case aO=>exact (zR HO_7.out));(case aS=>exact (keep_size (w:=w) (g:=g) (row:=none) zz0));(case aL=>have:=LMc51.out;omega);intro v212 w54 ho hb hg hat;rw [<-Ny211.out] at ho;replace HB:=ak_ (below_weaken zz2 HL.out hb);replace HI0:=ak_ (IsS51.grown zz1 hg (IsS51.own_ne HI0.out HO_7.out (by decide)));replace HK:=ak_ (KeepBut.trans zz0 (KeepBut.of_grown hg g) (Kd.R_base2 HO_7.out));have HO213:=ak_ (ho);clear HO_7;clear ho hb hg hat))
             go_roundg k6
             case measure=>have:=HJ4.out;have:=HJ14.out;have:=HJ18.out;have:=HJ27.out;have:=HJ33.out;have:=HK6.out;omega
             case rel=>exact ⟨(y211),(t209),(t210),H',⟨by have:=HJ4.out;have:=HJ14.out;have:=HJ18.out;have:=HJ27.out;have:=HJ33.out;have:=HK6.out;omega⟩,⟨zR HO213.out⟩,⟨zz1⟩,⟨zz0⟩,⟨zz2⟩⟩
def spec_l1Cur_jobs.f (k:Nat) (s0_0:List Int) (s0_1:Int) (s0_2:Int):Option ((List (S44)) × Int × Int):=(spec_l1Cur_one.f s0_0 s0_1 s0_2 2).bind fun bt214=>((spec_l1Cur_someJobs.f k s0_0 bt214.2.1 bt214.2.2 bt214.1 6).bind fun bt217=>(some (bt217.1,bt217.2.1,bt217.2.2)))
theorem spec_l1Cur_jobs.calls (k:Nat) (g:Nat) (s0_0:List Int) (s0_1:Int) (s0_2:Int) (r1:List (S44)) (r2:Int) (r3:Int) (w0 w:World) (hI:IsS51 w0 w g s0_0 s0_1 s0_2) (hB:Below w0.heap.size w0 w) (h:spec_l1Cur_jobs.f k s0_0 s0_1 s0_2=some (r1,r2,r3)) :
  Calls Try.prog 74 #[.pointer (some ⟨g,0,none⟩)] w fun e w'=>∃ v0_:Value,e=.returned (v0_)/\Kd.R k44 44 w' w.heap.size (fun _=>True) v0_ r1/\IsS51 w0 w' g s0_0 r2 r3/\Below w0.heap.size w0 w'/\KeepBut w w' g none:=by
 have HI0:=ak_ hI;have HK:=ak_ (KeepBut.refl w g none);have HL:=ak_ hB.size;clear hI;have HW0:=ak_ hB.size;have HB:=ak_ hB;clear hB;have H:((spec_l1Cur_one.f s0_0 s0_1 s0_2 2).bind fun bt214=>((spec_l1Cur_someJobs.f k s0_0 bt214.2.1 bt214.2.2 bt214.1 6).bind fun bt217=>(some (bt217.1,bt217.2.1,bt217.2.2))))=some (r1,r2,r3):=h;clear h;replace H:=gT H;obtain ⟨⟨t214,t215,t216⟩,A2,H⟩:=H
 try dsimp only at H
 replace H:=gT H;obtain ⟨⟨t217,t220,t221⟩,A3,H⟩:=H
 try dsimp only at H
 simp only [Option.some.injEq,Prod.mk.injEq] at H;obtain ⟨rfl,rfl,rfl⟩:=H
 go_enter Try.func74,Try.ntmps74
 go_wp2_with (first|(refine zgo 5 Try.func22 #[.pointer (some ⟨g,0,none⟩),.int .i64 2] ?_;(with_reducible refine (spec_l1Cur_one.calls g s0_0 s0_1 s0_2 2 t214 t215 t216 w0 _ ?side1 ?side2 A2.out).mono ?_);(case side1=>exact zz1);(case side2=>exact zz2);rintro e w4 ⟨rfl,hi,hb,hk⟩;refine ⟨_,rfl,?_⟩;replace HK:=ak_ (KeepBut.trans zz0 hk (.inl rfl));replace HB:=ak_ (hb);replace HI0:=ak_ (hi);(try clear hb);(try clear hk);(try clear hi))|(refine zgo 6 Try.func81 #[.pointer (some ⟨g,0,none⟩),.bool t214,.int .i64 6] ?_;(with_reducible refine (spec_l1Cur_someJobs.calls k g s0_0 t215 t216 t214 6 t217 t220 t221 w0 _ ?side1 ?side2 A3.out).mono ?_);(case side1=>exact zz1);(case side2=>exact zz2);rintro e w5 ⟨v218,rfl,ho0,hi,hb,hk⟩;refine ⟨_,rfl,?_⟩;have HO219:=ak_ (Kd.R_lower ho0 (keep_size (w:=w) (g:=g) (row:=none) zz0));replace HK:=ak_ (KeepBut.trans zz0 hk (.inl rfl));replace HB:=ak_ (hb);replace HI0:=ak_ (hi);(try clear hb);(try clear hk);(try clear hi);(try clear ho0)))
 go_ret
 exact ⟨_,zz3,zR HO219.out,zz1,zz2,zz0⟩
