-- Written by a program of this session (the kit's print, widened). Proved here: what each function answers, for the arguments that its contract names.
import Derived.Test.YtplbabjigikgjaaXFnExactSupportedPointsx0
import Derived.Test.YtplbabjigikgjaaXFnExactSupportedPointsx8
import Derived.Test.YtplbabjigikgjaaXFnExactSupportedPointsx10
import Derived.Test.YtplbabjigikgjaaXFnExactSupportedPointsx13
namespace Go.Proofs.Ytplbabjigikgjaa.XFnExactSupportedPoints
open Go.RowKit Go.Proofs.YtplbabjigikgjaaW.PrintWords Go.Proofs.YtplbabjigikgjaaW.PrintLast Go.Proofs.YtplbabjigikgjaaW.PrintMore
attribute [local go_sem] max2_int min2_int max_two min_two max_three min_three max_four min_four   -- for this text's walks alone
attribute [local go_sem] idxA_45_0 idxA_45_1 fldS_94_0 fldS_94_1 fldS_94_2 fldS_125_0 fldS_125_1 fldS_125_2
set_option linter.unusedVariables false
set_option linter.unusedSimpArgs false

/-! ### impl_SupportedPoints: function 28, by hand -/
/-! ### impl_SupportedPoints, by hand -/
def spOk (p r q:S45):Bool:=decide (wrap64 (wrap64 (p.f1 - q.f1) * wrap64 (p.f0 - r.f0))≤wrap64 (wrap64 (r.f1 - p.f1) * wrap64 (q.f0 - p.f0)))
def spIn (fr:List S45) (i c:Nat) (p r:S45):Bool:=((fr.drop (i + 1)).take c).all fun q=>spOk p r q
def spMid (fr:List S45) (i a:Nat) (p:S45):Bool:=(fr.take a).all fun r=>(fr.drop (i + 1)).all fun q=>spOk p r q
def spSup (fr:List S45) (i:Nat):Bool:=spMid fr i i (rd_T45 fr (i:Int))
def spPts (fr:List S45) (n:Nat):List S45:=((List.range n).filter fun i=>spSup fr i).map fun (i:Nat)=>rd_T45 fr (i:Int)
theorem spPts_succ (fr:List S45) (n:Nat):spPts fr (n + 1)=spPts fr n++(if spSup fr n=true then [rd_T45 fr (n:Int)] else []):=by
 unfold spPts
 rw [List.range_succ,List.filter_append,List.map_append]
 congr 1
 by_cases h:spSup fr n=true
 ·simp [h]
 ·simp [h]
theorem spPts_len (fr:List S45) (n:Nat):(spPts fr n).length≤n:=by
 unfold spPts
 rw [List.length_map]
 exact Nat.le_trans (List.length_filter_le _ _) (by simp)
theorem c_drop2 {W:World} {ad:Addr} {xs:List S45} {j:Nat} (h:Kd.C k45 W (some ad) xs.length xs) {c:Int} (h0:0≤c) (h1:c<((xs.length - j:Nat):Int)):W.cell? ((ad.add (j * 2)).add (c.toNat * 2))=some (.int .i64 (rd_T45 xs ((j:Int) + c)).f0)∧W.cell? ⟨((ad.add (j * 2)).add (c.toNat * 2)).block,((ad.add (j * 2)).add (c.toNat * 2)).off + 1,none⟩=some (.int .i64 (rd_T45 xs ((j:Int) + c)).f1):=by
 obtain ⟨ad1,e1,hx0,hx1⟩:=at_T45 h ((j:Int) + c) (by omega) (by omega)
 injection e1 with e1
 subst e1
 have e:(ad.add (j * 2)).add (c.toNat * 2)=ad.add (((j:Int) + c).toNat * 2):=by
  rw [show ((j:Int) + c).toNat * 2=j * 2 + c.toNat * 2 by omega]
  unfold Addr.add
  by_cases a1:j * 2=0
  ·by_cases a2:c.toNat * 2=0
   ·simp [a1,a2]
   ·simp [a1,a2]
  ·by_cases a2:c.toNat * 2=0
   ·simp [a1,a2]
   ·simp [a1,a2,Nat.add_assoc,show ¬ (j=0∧c.toNat=0) by omega]
    try omega
 rw [e];exact ⟨hx0,hx1⟩
theorem sp_take {fr:List S45} {a:Nat} (h:a<fr.length):fr.take (a + 1)=fr.take a++[rd_T45 fr (a:Int)]:=by
 rw [List.take_succ_eq_append_getElem h];simp [rd_T45,h]
theorem spMid_succ {fr:List S45} {i a:Nat} (h:a<fr.length) (p:S45):spMid fr i (a + 1) p=(spMid fr i a p && (fr.drop (i + 1)).all fun q=>spOk p (rd_T45 fr (a:Int)) q):=by
 unfold spMid;rw [sp_take h,List.all_append];simp
theorem spIn_succ {fr:List S45} {i c:Nat} (h:i + 1 + c<fr.length) (p r:S45):spIn fr i (c + 1) p r=(spIn fr i c p r && spOk p r (rd_T45 fr ((i + 1 + c:Nat):Int))):=by
 unfold spIn
 rw [List.take_succ_eq_append_getElem (show c<(fr.drop (i + 1)).length by simp;omega),List.all_append]
 have e:rd_T45 fr ((i + 1 + c:Nat):Int)=fr[i + 1 + c]:=by
  unfold rd_T45
  rw [Int.toNat_natCast]
  simp [h]
 rw [e]
 simp
theorem spIn_all {fr:List S45} {i c:Nat} (h:fr.length≤i + 1 + c) (p r:S45):spIn fr i c p r=(fr.drop (i + 1)).all fun q=>spOk p r q:=by
 unfold spIn;rw [List.take_of_length_le (by simp;omega)]
def impl_SupportedPoints.f (k:Nat) (l0:List S47) (a1 a2:Int):Option (List S45 × Bool):=(impl_areTwo.f k l0 a1 a2).bind fun b=>if b=true then ((impl_frontOf.f k l0 a1 a2).bind fun (fr:List S45)=>if fr.length≤1048576 then some (spPts fr fr.length,true) else none) else some ([],false)
theorem impl_SupportedPoints.mono:∀ l0 a1 a2 k,LeO (impl_SupportedPoints.f k l0 a1 a2) (impl_SupportedPoints.f (k + 1) l0 a1 a2):=by
 intro l0 a1 a2 k r h
 unfold impl_SupportedPoints.f at h ⊢
 obtain ⟨b,h1,h2⟩:=Option.bind_eq_some_iff.1 h
 rw [impl_areTwo.mono _ _ _ _ _ h1,Option.bind_some]
 split at h2
 ·rename_i c
  rw [if_pos c]
  obtain ⟨fr,h3,h4⟩:=Option.bind_eq_some_iff.1 h2
  rw [impl_frontOf.mono _ _ _ _ _ h3,Option.bind_some]
  exact h4
 ·rename_i c
  rw [if_neg c]
  exact h2
attribute [local go_sem] idxA_45_0 idxA_45_1
set_option maxHeartbeats 16000000 in
set_option maxRecDepth 100000 in
theorem impl_SupportedPoints.calls (k:Nat) (A0:Option Addr) (c0:Nat) (l0:List (S47)) (a1 a2:Int) (r1:List (S45)) (r2:Bool) (w:World) (hr0:Kd.C k47 w A0 l0.length l0) (hc0:l0.length≤c0) (h:impl_SupportedPoints.f k l0 a1 a2=some (r1,r2)) :
  Calls Try.prog 28 #[.slice A0 l0.length c0,.int .i64 a1,.int .i64 a2] w fun e w'=>∃ v0_:Value,e=.returned (.tuple #[v0_,.bool r2])∧Kd.R k45 45 w' w.heap.size (fun _=>True) v0_ r1∧Below w.heap.size w w':=by
 unfold impl_SupportedPoints.f at h
 obtain ⟨b,h1,h2⟩:=Option.bind_eq_some_iff.1 h
 clear h
 have HR0:=Aside0.mk hr0
 have HC0:=Aside0.mk hc0
 have H1:=Aside0.mk h1
 have H2:=Aside0.mk h2
 have HB:=Aside0.mk (Below.refl w.heap.size w)
 clear hr0 hc0 h1 h2
 go_enter Try.func28,Try.ntmps28
 go_wp2_with (fail)
 refine (impl_areTwo.calls k _ _ l0 a1 a2 b _ HR0.out HC0.out H1.out).mono ?_
 rintro e w2 ⟨rfl,hb⟩
 dsimp only
 have HB2:=Aside0.mk (below_step HB.out hb)
 clear HB hb
 cases b with
 | false=>
  obtain ⟨rfl,rfl⟩:([]:List S45)=r1∧false=r2:=by have:=H2.out;simpa using this
  go_wp2
  go_ret2
  exact ⟨_,rfl,Kd.R_nil _ _ _ _ _,by repeat (first|exact HB2.out|apply below_alloc|apply pw_below_drewN|apply below_drew1)⟩
 | true=>
  have h2:=H2.out
  rw [if_pos rfl] at h2
  obtain ⟨fr,h3,h4⟩:=Option.bind_eq_some_iff.1 h2
  split at h4
  case isFalse=>cases h4
  case isTrue hn=>
  obtain ⟨rfl,rfl⟩:spPts fr fr.length=r1∧true=r2:=by simpa using h4
  have H3:=Aside0.mk h3
  have HN:=Aside0.mk hn
  clear h2 h3 h4 hn H2
  go_wp2_with (fail)
  refine (impl_frontOf.calls k _ _ l0 a1 a2 fr _ (Kd.C_below HR0.out (by repeat (first|exact HB2.out|apply below_alloc|apply pw_below_drewN|apply below_drew1))) HC0.out H3.out).mono ?_
  rintro e w3 ⟨v3,rfl,ho,hb⟩
  dsimp only
  obtain ⟨Af,cf,e3⟩:=Kd.R_slice ho
  subst e3
  have CF:=Aside0.mk (Kd.R_reads' ho).2.2
  have HCF:=Aside0.mk (Kd.R_reads' ho).2.1
  have HB3:=Aside0.mk (below_step (by repeat (first|exact HB2.out|apply below_alloc|apply pw_below_drewN|apply below_drew1)) hb)
  clear HB2 ho hb
  go_wp2
  go_loopg [9,28] fr.length (fun kq v9 v28 w'=>∃ (i:Int),v28=.int .i64 i∧Aside0 (0≤i∧i.toNat + kq=fr.length)∧Aside0 (Kd.R k45 45 w' w3.heap.size (fun _=>True) v9 (spPts fr i.toNat))∧Aside0 (Below w3.heap.size w3 w'))
  case atStart=>exact ⟨0,(by first|rfl|(simp;done)),⟨by simp⟩,⟨Kd.R_nil _ _ _ _ _⟩,⟨by repeat (first|exact Below.refl _ _|apply below_drew1|apply pw_below_drewN)⟩⟩
  case round=>
   obtain ⟨i,rfl,HK1,HO,HB⟩:=hrel
   obtain ⟨n0,rfl⟩:=Int.eq_ofNat_of_zero_le HK1.out.1
   replace HK1:Aside0 (n0 + gk=fr.length):=⟨by have:=HK1.out;omega⟩
   replace HO:Aside0 (Kd.R k45 45 wr w3.heap.size (fun _=>True) u9 (spPts fr n0)):=⟨HO.out⟩
   obtain ⟨Ao,co,eo⟩:=Kd.R_slice HO.out
   subst eo
   by_cases c:(n0:Int)<(fr.length:Int)
   ·have cb:decide ((n0:Int)<(fr.length:Int))=true:=decide_eq_true c
    have pi:0≤(n0:Int):=by omega
    obtain ⟨ad1,e1,hx0,hx1⟩:=at_T45 (Kd.C_below CF.out HB.out) (n0:Int) pi c
    subst e1
    obtain ⟨p,hp⟩:∃ q,rd_T45 fr (n0:Int)=q:=⟨_,rfl⟩
    rw [hp] at hx0 hx1
    have HP:Aside0 (rd_T45 fr (n0:Int)=p):=⟨hp⟩
    obtain ⟨p0,p1⟩:=p
    replace hx0:wr.cell? (ad1.add (n0 * 2))=some (.int .i64 p0):=hx0
    replace hx1:wr.cell? ⟨(ad1.add (n0 * 2)).block,(ad1.add (n0 * 2)).off + 1,none⟩=some (.int .i64 p1):=hx1
    have HI:Aside0 ((n0:Int)<(fr.length:Int)):=⟨c⟩
    have HW:Aside0 (wrap64 ((n0:Int) + 1)=(n0:Int) + 1∧((n0:Int) + 1).toNat=n0 + 1):=⟨by unfold wrap64;have:=HN.out;omega,by omega⟩
    have hw1:IntKind.i64.wrap ((n0:Int) + 1)=(n0:Int) + 1:=(i64_w _).trans HW.out.1
    obtain ⟨i0_,hi0_,_,hsz_,_⟩:=info_parts info45
    have hcutA:=cut_to (P:=Try.prog) 36 45 .i64 Try.underlying36 hi0_ (some ad1) fr.length cf (n0:Int) (by omega) (by omega) HCF.out
    have hcutB:=cut_from (P:=Try.prog) 36 45 .i64 Try.underlying36 hi0_ 2 hsz_ (some ad1) fr.length cf ((n0:Int) + 1) (by omega) (by omega)
    rw [HW.out.2] at hcutB
    rw [Int.toNat_natCast] at hcutA
    obtain ⟨m,hm⟩:∃ m,m=fr.length - (n0 + 1):=⟨_,rfl⟩
    obtain ⟨cm,hcm⟩:∃ m,m=cf - (n0 + 1):=⟨_,rfl⟩
    obtain ⟨AB,hAB⟩:∃ A_,A_=(if cf=(n0 + 1) then some ad1 else (some ad1).map (·.add ((n0 + 1) * 2))):=⟨_,rfl⟩
    rw [←hm,←hcm,←hAB] at hcutB
    have HAB:Aside0 (0<m→AB=some (ad1.add ((n0 + 1) * 2))):=⟨fun h_=>by rw [hAB,if_neg (by have:=HCF.out;omega)];rfl⟩
    have HM:Aside0 (m=fr.length - (n0 + 1)):=⟨hm⟩
    obtain ⟨wq,hwq⟩:∃ w_,w_=wr.alloc (Obj.cells #[Value.int .i64 p0,Value.int .i64 p1] 45):=⟨_,rfl⟩
    have BP:Aside0 (wq.heap[wr.heap.size]?=some (.cells #[.int .i64 p0,.int .i64 p1] 45 (0,0))):=⟨by rw [hwq];exact World.alloc_heap_new wr _⟩
    obtain ⟨bp,hbp⟩:∃ b_,b_=wr.heap.size:=⟨_,rfl⟩
    have HSP:Aside0 (bp<wq.heap.size):=⟨by rw [hwq,alloc_size];omega⟩
    have HBQ:Aside0 (Below w3.heap.size w3 wq):=⟨by rw [hwq];exact below_alloc HB.out _⟩
    have HOQ:Aside0 (Kd.R k45 45 wq w3.heap.size (fun _=>True) (.slice Ao (spPts fr n0).length co) (spPts fr n0)):=⟨by rw [hwq];exact Kd.R_alloc HO.out _⟩
    have HWQ:=Aside0.mk hwq
    have qi:=eq_true c
    replace pi:=eq_true pi
    clear c hp hm hcm hAB hwq HO HB hi0_ hsz_
    go_wp2
    rw [←HWQ.out,←hbp]
    rw [←hbp] at BP
    clear hbp HWQ
    go_loopg [12,37] n0 (fun kq v12 v37 w'=>∃ (a:Int),v12=.bool (spMid fr n0 a.toNat ⟨p0,p1⟩)∧v37=.int .i64 a∧Aside0 (0≤a∧a.toNat + kq=n0)∧Aside0 (Below wq.heap.size wq w'))
    case atStart=>exact ⟨0,(by first|rfl|(simp [spMid];done)),(by first|rfl|(simp;done)),⟨by simp⟩,⟨by repeat (first|exact Below.refl _ _|apply below_drew1|apply pw_below_drewN)⟩⟩
    case round=>
     obtain ⟨a,rfl,rfl,HK2,HBm⟩:=hrel
     have HB2:=Aside0.mk (below_step HBQ.out HBm.out)
     have bpw:wr.heap[bp]?=some (.cells #[.int .i64 p0,.int .i64 p1] 45 (0,0)):=(HBm.out.block _ HSP.out).trans BP.out
     have BPw:=Aside0.mk bpw
     by_cases c2:a<(n0:Int)
     ·have cb2:decide (a<(n0:Int))=true:=decide_eq_true c2
      have pa:0≤a:=HK2.out.1
      have qa:a<(fr.length:Int):=by have:=HI.out;omega
      have HA:Aside0 (0≤a∧a<(n0:Int)):=⟨pa,by have:=HI.out;omega⟩
      obtain ⟨ad2,e2,hy0,hy1⟩:=at_T45 (Kd.C_below CF.out HB2.out) a pa qa
      injection e2 with e2
      subst e2
      obtain ⟨r,hr⟩:∃ q,rd_T45 fr a=q:=⟨_,rfl⟩
      rw [hr] at hy0 hy1
      have HR:Aside0 (rd_T45 fr ((a.toNat:Nat):Int)=r):=⟨by rw [show ((a.toNat:Nat):Int)=a by omega];exact hr⟩
      obtain ⟨r0,r1⟩:=r
      replace hy0:wr.cell? (ad1.add (a.toNat * 2))=some (.int .i64 r0):=hy0
      replace hy1:wr.cell? ⟨(ad1.add (a.toNat * 2)).block,(ad1.add (a.toNat * 2)).off + 1,none⟩=some (.int .i64 r1):=hy1
      have HWa:Aside0 (wrap64 (a + 1)=a + 1∧(a + 1).toNat=a.toNat + 1):=⟨by unfold wrap64;have:=HN.out;omega,by omega⟩
      obtain ⟨wz,hwz⟩:∃ w_,w_=wr.alloc (Obj.cells #[Value.int .i64 r0,Value.int .i64 r1] 45):=⟨_,rfl⟩
      have BR:Aside0 (wz.heap[wr.heap.size]?=some (.cells #[.int .i64 r0,.int .i64 r1] 45 (0,0))):=⟨by rw [hwz];exact World.alloc_heap_new wr _⟩
      obtain ⟨br,hbr⟩:∃ b_,b_=wr.heap.size:=⟨_,rfl⟩
      have HSR:Aside0 (br<wz.heap.size):=⟨by rw [hwz,alloc_size];omega⟩
      have HSP2:Aside0 (bp<wz.heap.size):=⟨by have h1_:=HSP.out;have h2_:=below_size HBm.out;rw [hwz,alloc_size];omega⟩
      have HBZ:Aside0 (Below wq.heap.size wq wz):=⟨by rw [hwz];exact below_alloc HBm.out _⟩
      have HWZ:=Aside0.mk hwz
      have qa2:=eq_true c2
      replace pa:=eq_true pa
      replace qa:=eq_true qa
      clear c2 hr hwz HBm HB2 bpw BPw
      obtain ⟨b0,hb0⟩:∃ b_,spMid fr n0 a.toNat ⟨p0,p1⟩=b_:=⟨_,rfl⟩
      have HB0:=Aside0.mk hb0
      rw [hb0]
      clear hb0
      go_wp2
      rw [←HWZ.out,←hbr]
      rw [←hbr] at BR
      clear hbr HWZ hy0 hy1
      go_loopg [12,46] m (fun kq v12 v46 w'=>∃ (c:Int),v12=.bool (b0 && spIn fr n0 c.toNat ⟨p0,p1⟩ ⟨r0,r1⟩)∧v46=.int .i64 c∧Aside0 (0≤c∧c.toNat + kq=m)∧Aside0 (Below wz.heap.size wz w'))
      case atStart=>exact ⟨0,(by first|rfl|(simp [spIn];done)),(by first|rfl|(simp;done)),⟨by simp⟩,⟨by repeat (first|exact Below.refl _ _|apply below_drew1|apply pw_below_drewN)⟩⟩
      case round=>
       obtain ⟨c,rfl,rfl,HK3,HBi⟩:=hrel
       have HBz:=Aside0.mk (below_step HBZ.out HBi.out)
       by_cases c3:c<((m:Nat):Int)
       ·have cb3:decide (c<((m:Nat):Int))=true:=decide_eq_true c3
        have pc:0≤c:=HK3.out.1
        have HCC:Aside0 (0≤c∧n0 + 1 + c.toNat<fr.length∧c.toNat<m):=⟨by have h1_:=HM.out;have h2_:=HI.out;omega⟩
        have eAB:=HAB.out (by omega)
        obtain ⟨hz0,hz1⟩:=c_drop2 (j:=(n0 + 1)) (Kd.C_below CF.out (below_step HBQ.out HBz.out)) pc (by rw [←HM.out];exact c3)
        obtain ⟨q,hq⟩:∃ q,rd_T45 fr (((n0 + 1:Nat):Int) + c)=q:=⟨_,rfl⟩
        rw [hq] at hz0 hz1
        have HQ:Aside0 (rd_T45 fr ((n0 + 1 + c.toNat:Nat):Int)=q):=⟨by rw [←hq];congr 1;have:=HI.out;omega⟩
        obtain ⟨q0,q1⟩:=q
        replace hz0:wr.cell? ((ad1.add ((n0 + 1) * 2)).add (c.toNat * 2))=some (.int .i64 q0):=hz0
        replace hz1:wr.cell? ⟨((ad1.add ((n0 + 1) * 2)).add (c.toNat * 2)).block,((ad1.add ((n0 + 1) * 2)).add (c.toNat * 2)).off + 1,none⟩=some (.int .i64 q1):=hz1
        have HWc:Aside0 (wrap64 (c + 1)=c + 1∧(c + 1).toNat=c.toNat + 1):=⟨by unfold wrap64;have:=HN.out;have:=HCC.out;omega,by omega⟩
        have HIN:Aside0 ((b0 && spIn fr n0 (c + 1).toNat ⟨p0,p1⟩ ⟨r0,r1⟩)=((b0 && spIn fr n0 c.toNat ⟨p0,p1⟩ ⟨r0,r1⟩) && spOk ⟨p0,p1⟩ ⟨r0,r1⟩ ⟨q0,q1⟩)):=⟨by rw [HWc.out.2,spIn_succ HCC.out.2.1,HQ.out,Bool.and_assoc]⟩
        obtain ⟨wx,hwx⟩:∃ w_,w_=wr.alloc (Obj.cells #[Value.int .i64 q0,Value.int .i64 q1] 45):=⟨_,rfl⟩
        have hbx:Below wz.heap.size wz wx:=by rw [hwx];exact below_alloc HBi.out _
        have bq:wx.heap[wr.heap.size]?=some (.cells #[.int .i64 q0,.int .i64 q1] 45 (0,0)):=by rw [hwx];exact World.alloc_heap_new wr _
        have bpx:wx.heap[bp]?=some (.cells #[.int .i64 p0,.int .i64 p1] 45 (0,0)):=(hbx.block _ HSP2.out).trans ((HBZ.out.block _ HSP.out).trans BP.out)
        have brx:wx.heap[br]?=some (.cells #[.int .i64 r0,.int .i64 r1] 45 (0,0)):=(hbx.block _ HSR.out).trans BR.out
        have cp0:wx.cell? ⟨bp,0,none⟩=some (.int .i64 p0):=(blk_cell bpx 0).trans rfl
        have cp1:wx.cell? ⟨bp,1,none⟩=some (.int .i64 p1):=(blk_cell bpx 1).trans rfl
        have cr0:wx.cell? ⟨br,0,none⟩=some (.int .i64 r0):=(blk_cell brx 0).trans rfl
        have cr1:wx.cell? ⟨br,1,none⟩=some (.int .i64 r1):=(blk_cell brx 1).trans rfl
        have cq0:wx.cell? ⟨wr.heap.size,0,none⟩=some (.int .i64 q0):=(blk_cell bq 0).trans rfl
        have cq1:wx.cell? ⟨wr.heap.size,1,none⟩=some (.int .i64 q1):=(blk_cell bq 1).trans rfl
        have HBX:=Aside0.mk hbx
        have HWX:=Aside0.mk hwx
        rw [hwx] at cp0 cp1 cr0 cr1 cq0 cq1
        have qc:=eq_true c3
        replace pc:=eq_true pc
        clear c3 hq hbx hwx bq bpx brx HBi HBz
        subst eAB
        obtain ⟨b1,hb1⟩:∃ b_,(b0 && spIn fr n0 c.toNat ⟨p0,p1⟩ ⟨r0,r1⟩)=b_:=⟨_,rfl⟩
        have HB1:=Aside0.mk hb1
        rw [hb1]
        clear hb1
        cases b1 with
        | false=>
         have HV:Aside0 ((b0 && spIn fr n0 (c + 1).toNat ⟨p0,p1⟩ ⟨r0,r1⟩)=false):=⟨by rw [HIN.out,HB1.out];rfl⟩
         clear HIN HB1
         go_wp2
         rw [←HWX.out]
         go_roundg (m - (c.toNat + 1))
         case measure=>have:=HK3.out;have:=HCC.out;omega
         case rel=>exact ⟨c + 1,(by rw [HV.out]),(by first|rfl|(rw [i64_w,HWc.out.1])|(simp [HWc.out.1];done)),⟨by have:=HK3.out;have:=HWc.out.2;have:=HCC.out;omega⟩,⟨by repeat (first|exact HBX.out|apply below_alloc|apply pw_below_drewN|apply below_drew1)⟩⟩
        | true=>
         have HV:Aside0 ((b0 && spIn fr n0 (c + 1).toNat ⟨p0,p1⟩ ⟨r0,r1⟩)=spOk ⟨p0,p1⟩ ⟨r0,r1⟩ ⟨q0,q1⟩):=⟨by rw [HIN.out,HB1.out];rfl⟩
         clear HIN HB1
         go_wp2
         rw [←HWX.out]
         go_roundg (m - (c.toNat + 1))
         case measure=>have:=HK3.out;have:=HCC.out;omega
         case rel=>exact ⟨c + 1,(by rw [HV.out];first|rfl|(simp [spOk,i64_w];done)),(by first|rfl|(rw [i64_w,HWc.out.1])|(simp [HWc.out.1];done)),⟨by have:=HK3.out;have:=HWc.out.2;have:=HCC.out;omega⟩,⟨by repeat (first|exact HBX.out|apply below_alloc|apply pw_below_drewN|apply below_drew1)⟩⟩
       ·have cb3:decide (c<((m:Nat):Int))=false:=decide_eq_false c3
        have HV:Aside0 ((b0 && spIn fr n0 c.toNat ⟨p0,p1⟩ ⟨r0,r1⟩)=spMid fr n0 (a + 1).toNat ⟨p0,p1⟩):=⟨by
         rw [HWa.out.2,spMid_succ (by have:=HA.out;have:=HI.out;omega),HR.out,HB0.out,spIn_all (by have h1_:=HM.out;have h2_:=HI.out;omega)]⟩
        clear c3
        go_wp2
        go_roundg (n0 - (a.toNat + 1))
        case measure=>have:=HK2.out;have:=HA.out;omega
        case rel=>exact ⟨a + 1,(by rw [HV.out]),(by first|rfl|(rw [i64_w,HWa.out.1])|(simp [HWa.out.1];done)),⟨by have:=HK2.out;have:=HWa.out.2;have:=HA.out;omega⟩,⟨by repeat (first|exact HBz.out|apply below_alloc|apply pw_below_drewN|apply below_drew1)⟩⟩
     ·have cb2:decide (a<(n0:Int))=false:=decide_eq_false c2
      have HAE:Aside0 (a.toNat=n0):=⟨by have:=HK2.out;omega⟩
      have HSU:Aside0 (spMid fr n0 a.toNat ⟨p0,p1⟩=spSup fr n0):=⟨by rw [HAE.out,spSup,HP.out]⟩
      have HO2:=Aside0.mk (Kd.R_below HOQ.out HBm.out)
      have cp0:wr.cell? ⟨bp,0,none⟩=some (.int .i64 p0):=(blk_cell bpw 0).trans rfl
      have cp1:wr.cell? ⟨bp,1,none⟩=some (.int .i64 p1):=(blk_cell bpw 1).trans rfl
      have HSUC:=Aside0.mk (spPts_succ fr n0)
      clear c2 bpw
      rw [HSU.out]
      obtain ⟨sb,hsb⟩:∃ b_,spSup fr n0=b_:=⟨_,rfl⟩
      rw [hsb]
      have HSB:=Aside0.mk hsb
      clear hsb
      cases sb with
      | false=>
       go_wp2
       go_roundg (fr.length - (n0 + 1))
       case measure=>have:=HK1.out;have:=HI.out;omega
       case rel=>exact ⟨(n0:Int) + 1,(by first|rfl|(rw [i64_w,HW.out.1])|(simp [HW.out.1];done)),⟨by have:=HK1.out;have:=HW.out.2;have:=HI.out;omega⟩,⟨by (with_reducible repeat (first|apply Kd.R_alloc|apply Kd.R_drewN|apply Kd.R_drew));rw [HW.out.2,HSUC.out,HSB.out];simpa using HO2.out⟩,⟨by repeat (first|exact HB2.out|apply below_alloc|apply pw_below_drewN|apply below_drew1)⟩⟩
      | true=>
       go_wp2_with (first|((with_reducible refine gate_builtin (b:=.append) (xs:=#[.tmp 79,.tmp 81]) rfl ?_);at_builtin;refine Kd.R_append k45 (w0:=w3) w3.heap.size rfl (.tmp 79) (.tmp 81) 36 45 (.agg #[(.int .i64 0),(.int .i64 0)]) 16 rfl Try.underlying36 info45 rfl (by decide) (by omega) (.slice Ao (spPts fr n0).length co) (spPts fr n0) (⟨p0,p1⟩:S45) [.int .i64 p0,.int .i64 p1] (fun _=>True) (fun _=>False) rfl rfl ?aP (fun _ hk=>hk.elim) ?aF ?aO ?aB ?aS ?aL ?_;(case aP=>exact k45_mkM _ _ _ (⟨p0,p1⟩:S45));(case aB=>exact (by repeat (first|exact HB2.out|apply below_alloc|apply pw_below_drewN|apply below_drew1)));(case aF=>exact (fun _ _=>trivial));(case aO=>exact (by (with_reducible repeat (first|apply Kd.R_alloc|apply Kd.R_drewN|apply Kd.R_drew));exact HO2.out));(case aS=>exact (below_size (by repeat (first|exact HB2.out|apply below_alloc|apply pw_below_drewN|apply below_drew1))));(case aL=>have:=spPts_len fr n0;have:=HN.out;have:=HI.out;omega);intro v7 w7 ho hb hg hat;clear hg hat;have HO7:=Aside0.mk ho;have HB7:=Aside0.mk hb;clear ho hb))
       go_roundg (fr.length - (n0 + 1))
       case measure=>have:=HK1.out;have:=HI.out;omega
       case rel=>exact ⟨(n0:Int) + 1,(by first|rfl|(rw [i64_w,HW.out.1])|(simp [HW.out.1];done)),⟨by have:=HK1.out;have:=HW.out.2;have:=HI.out;omega⟩,⟨by (with_reducible repeat (first|apply Kd.R_alloc|apply Kd.R_drewN|apply Kd.R_drew));rw [HW.out.2,HSUC.out,HSB.out,if_pos rfl,HP.out];exact HO7.out⟩,⟨by repeat (first|exact HB7.out|apply below_alloc|apply pw_below_drewN|apply below_drew1)⟩⟩
   ·have cb:decide ((n0:Int)<(fr.length:Int))=false:=decide_eq_false c
    have cbn:decide (n0<fr.length)=false:=decide_eq_false (by omega)
    have HIE:Aside0 (n0=fr.length):=⟨by have:=HK1.out;omega⟩
    clear c
    go_wp2
    go_ret2
    exact ⟨_,rfl,by (with_reducible repeat (first|apply Kd.R_alloc|apply Kd.R_drewN|apply Kd.R_drew));rw [←HIE.out];exact Kd.R_lower HO.out (below_size HB3.out),below_step HB3.out (by repeat (first|exact HB.out|apply below_alloc|apply pw_below_drewN|apply below_drew1))⟩

end Go.Proofs.Ytplbabjigikgjaa.XFnExactSupportedPoints
-- minified
