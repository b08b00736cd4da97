import Derived.Test.YtndcbfifmafcoaaXFnTailsFirstx7
import Derived.Test.YtndcbfifmafcoaaXFnTailsFirstx13
import Derived.Test.YtndcbfifmafcoaaXFnTailsFirstx14
import Derived.Test.YtndcbfifmafcoaaXFnTailsFirstx30
namespace Go.Proofs.Ytndcbfifmafcoaa.XFnTailsFirst
set_option maxRecDepth 100000
set_option maxHeartbeats 8000000
open Go.RowKit Go.Proofs.YtndcbfifmafcoaaW.PrintWords Go.Proofs.YtndcbfifmafcoaaW.PrintLast Go.Proofs.YtndcbfifmafcoaaW.PrintMore
set_option linter.unusedVariables false
set_option linter.unusedSimpArgs false
theorem impl_LabelPlan1.cmp (box:Addr) (A0:Option Addr) (c0:Nat) (l0:List Int) (W:World) (hbox:W.cell? box=some (.slice A0 l0.length c0)) (hr:Kd.C (Kd.int .i64) W A0 l0.length l0) (a b:Int) (ha:0<=a/\a<l0.length) (hb:0<=b/\b<l0.length) :
  Calls Try.prog 45 #[.int .i64 a,.int .i64 b,.pointer (some box)] W fun e W'=>e=.returned (.bool (decide (rd l0 b<rd l0 a)))/\∃ n,W'=W.drewN n:=by
 obtain ⟨ad1,e1,hx1⟩:=Kd.at_int hr a ha.1 ha.2;obtain ⟨ad2,e2,hx2⟩:=Kd.at_int hr b hb.1 hb.2;subst e1;obtain rfl:ad1=ad2:=by injection e2
 clear hr e2;have p1:=eq_true ha.1;have q1:=eq_true ha.2;have p2:=eq_true hb.1;have q2:=eq_true hb.2;clear ha hb
 go_enter Try.func45,Try.ntmps45
 go_wp2
 go_region
 all_goals (go_wp2;go_ret;exact ⟨rfl,1,rfl⟩)
/-- a job with the time 1 -/
def oneJ:S44:=⟨1,0,0,0⟩
theorem one_step (i m:Nat):(List.replicate i oneJ++List.replicate (m + 1) z44).set i oneJ=List.replicate (i + 1) oneJ++List.replicate m z44:=by
 rw [List.set_append,if_neg (by simp),List.length_replicate,Nat.sub_self,List.replicate_succ (n:=m),List.set_cons_zero,List.replicate_succ' (n:=i),List.append_assoc]
 rfl
theorem one_get (i m:Nat):(List.replicate i oneJ++List.replicate (m + 1) z44).getD i z44=z44:=by
 rw [List.getD_eq_getElem?_getD,List.getElem?_append_right (by simp),List.length_replicate,Nat.sub_self,List.replicate_succ,List.getElem?_cons_zero]
 rfl
def impl_LabelPlan.f (k:Nat) (a0:Int) (l1:List S42):Option (List S73 × Bool):=(impl_IsPrecedence.f k a0 l1).bind fun b=>if b=true then (if 0<=a0/\a0<=1048576 then ((impl_labelsOf.f k a0 l1).bind fun (tl:List Int)=>(impl_numbersTo.f k a0).bind fun (r1:List Int)=>if r1.length<=1048576/\∀ x ∈ r1,0<=x/\x<(tl.length:Int) then (impl_listPlan.f k (List.replicate a0.toNat oneJ) 2 l1 (insAll (fun a b=>decide (rd tl b<rd tl a)) r1 [])).bind fun r=>some (r,true) else none) else none) else some ([],false)
theorem impl_LabelPlan.calls (k:Nat) (a0:Int) (A1:Option Addr) (c1:Nat) (l1:List (S42)) (r1:List (S73)) (r2:Bool) (w:World) (hr1:Kd.C k42 w A1 l1.length l1) (hc1:l1.length<=c1) (h:impl_LabelPlan.f k a0 l1=some (r1,r2)) :
  Calls Try.prog 14 #[.int .i64 a0,.slice A1 l1.length c1] w fun e w'=>∃ v0_:Value,e=.returned (.tuple #[v0_,.bool r2])/\Kd.R k73 73 w' w.heap.size (fun _=>True) v0_ r1/\Below w.heap.size w w':=by
 unfold impl_LabelPlan.f at h;obtain ⟨b,h1,h2⟩:=Option.bind_eq_some_iff.1 h;clear h;have HR2:=ak_ hr1;have HC2:=ak_ hc1;have H1:=ak_ h1;have H2:=ak_ h2;have HB:=ak_ (Below.refl w.heap.size w);clear hr1 hc1 h1 h2
 go_enter Try.func14,Try.ntmps14
 go_wp2_with (fail)
 refine (impl_IsPrecedence.calls k a0 _ _ l1 b _ (Kd.C_below HR2.out zz14) HC2.out H1.out).mono ?_;rintro e w2 ⟨rfl,hb⟩
 dsimp only
 have HB2:=ak_ (below_step zz14 hb);clear HB hb;have HB:=HB2;clear HB2;cases b with
 | false=>
  obtain ⟨rfl,rfl⟩:([]:List S73)=r1/\false=r2:=by have:=H2.out;simpa using this
  go_wp2
  go_ret2
  exact ⟨_,rfl,Kd.R_nil _ _ _ _ _,zz14⟩
 | true=>
  have h2:=H2.out;rw [if_pos rfl] at h2
  split at h2
  case isFalse=>cases h2
  case isTrue hn0=>
  obtain ⟨tl,h7,h2⟩:=Option.bind_eq_some_iff.1 h2;obtain ⟨n1,h3,h4⟩:=Option.bind_eq_some_iff.1 h2
  split at h4
  case isFalse=>cases h4
  case isTrue hg=>
  obtain ⟨p1,h5,h6⟩:=Option.bind_eq_some_iff.1 h4;obtain ⟨rfl,rfl⟩:p1=r1/\true=r2:=by simpa using h6
  obtain ⟨n,rfl⟩:=Int.eq_ofNat_of_zero_le hn0.1;rw [Int.toNat_natCast] at h5;have HN:=ak_ hn0;have H7:=ak_ h7;have H3:=ak_ h3;have H5:=ak_ h5;have HG:=ak_ hg;clear h2 h3 h4 h5 h6 h7 hg H2 hn0
  go_wp2_with (((with_reducible refine gate_dst (N:=14) rfl ?_);refine Kd.R_make k44 _ 44 rfl (N:=14) rfl 24 _ _ rfl (n:Int) rfl rfl Try.underlying24 (.agg #[(.int .i64 0),(.int .i64 0),(.int .i64 0),(.int .i64 0)]) 32 info44 rfl (by decide) (by omega) z44 (ok:=fun _=>True) (okp:=fun _=>True) (k44_mkM _ _ _ z44) (fun _ hk=>hk) trivial (by omega) (by have:=HN.out;omega) (Below.refl _ _) (Nat.le_refl _) ?_;intro vJ w3 ho hb hg_ hnew_;clear hg_ hnew_;obtain ⟨AJ,cJ,eJ⟩:=Kd.R_slice ho;rw [show (List.replicate (n:Int).toNat z44).length=n by simp] at eJ;subst eJ;rw [Int.toNat_natCast] at ho;have HJ:=ak_ (Kd.R_lower ho (below_size zz14));have n1_:=ak_ (below_step zz14 hb);clear HB;have HB:=n1_;clear n1_ ho hb))
  go_loopg [17] n (fun kq v17 w'=>∃ (i:Nat),v17=.int .i64 (i:Int)/\Aside0 (i + kq=n)/\Aside0 (Kd.R k44 44 w' w.heap.size (fun _=>True) (.slice AJ n cJ) (List.replicate i oneJ++List.replicate kq z44))/\Aside0 (Below w.heap.size w w'))
  case atStart=>exact ⟨0,(by rfl),⟨by simp⟩,⟨by (with_reducible repeat (apply Kd.R_alloc));simpa using HJ.out⟩,⟨zz14⟩⟩
  case round=>
   clear HJ HB;obtain ⟨i,rfl,HK,HJ,HB⟩:=hrel;cases gk with
   | zero=>
    have cb:decide ((i:Int)<(n:Int))=false:=decide_eq_false (by have:=HK.out;omega);have cbn:decide (i<n)=false:=decide_eq_false (by have:=HK.out;omega);obtain ⟨js,hjs⟩:∃ l,l=List.replicate n oneJ:=⟨_,rfl⟩;have HJ1:Aside0 (Kd.R k44 44 wr w.heap.size (fun _=>True) (.slice AJ n cJ) js):=⟨by rw [hjs];have h:=HJ.out;rw [show i=n by have:=HK.out;omega] at h;simpa using h⟩;have h5:=H5.out;rw [<-hjs] at h5;have H5':=ak_ h5;have hl:js.length=n:=by rw [hjs,List.length_replicate]
    clear hjs h5 H5 HJ HK;subst hl
    go_wp2_with (fail)
    refine (impl_labelsOf.calls k _ _ _ l1 tl _ (Kd.C_below HR2.out zz14) HC2.out H7.out).mono ?_;rintro e w7 ⟨v7,rfl,ho0,hb⟩
    dsimp only
    have HB7:=ak_ (below_step zz14 hb);have HJ7:=ak_ (Kd.R_below HJ1.out (below_step (by repeat (exact Below.refl _ _)) hb));have HO7:=ak_ ho0;clear HB HJ1 ho0 hb cb cbn;obtain ⟨Ao7,co7,rfl⟩:=Kd.R_slice HO7.out
    go_wp2_with (fail)
    refine (impl_numbersTo.calls k _ n1 _ H3.out).mono ?_;rintro e w3 ⟨v3,rfl,ho0,hb⟩
    dsimp only
    have BX3:Aside0 (Boxed w3 w7.heap.size 34 (.slice Ao7 tl.length co7)):=⟨boxed_below (boxed_alloc rfl) hb⟩;have CT3:=ak_ (Kd.C_below (Kd.C_below (r2_ HO7) (below_alloc (Below.refl _ _) _)) hb);have HJ3:=ak_ (Kd.R_below HJ7.out (below_step (by repeat (first|exact Below.refl _ _|apply below_alloc)) hb));have HB3:=ak_ (below_step (by repeat (first|exact HB7.out|apply below_alloc)) hb);have HO3:=ak_ ho0;clear HB7 HO7 HJ7 ho0 hb;obtain ⟨Ao3,co3,rfl⟩:=Kd.R_slice HO3.out
    go_wp2_with (fail)
    refine (impl_sortedBy.calls 45 ?eg #[.pointer (some ⟨w7.heap.size,0,none⟩)] (fun a b=>decide (rd tl b<rd tl a)) (fun x=>0<=x/\x<(tl.length:Int)) Ao3 co3 n1 _ (r2_ HO3) (r1_ HO3) HG.out.2 HG.out.1 ?cmp).mono ?_
    case eg=>intro args w;go_simp
    case cmp=>intro W hW a b ha hb;exact impl_LabelPlan1.cmp _ Ao7 co7 tl W (boxed_below BX3.out hW).cell (Kd.C_below CT3.out hW) a b ha hb
    rintro e w4 ⟨v4,rfl,ho0,hb⟩
    dsimp only
    have HB4:=ak_ (below_step HB3.out hb);have HJ4:=ak_ (Kd.R_below HJ3.out hb);have HO4:=ak_ ho0;clear BX3 CT3 HB3 HO3 HJ3 ho0 hb;obtain ⟨Ao4,co4,rfl⟩:=Kd.R_slice HO4.out
    go_wp2_with (fail)
    refine (impl_listPlan.calls k _ _ js 2 _ _ l1 _ _ _ _ _ (r2_ HJ4) (r1_ HJ4) (Kd.C_below HR2.out zz47) HC2.out (r2_ HO4) (r1_ HO4) H5'.out).mono ?_;rintro e w5 ⟨v5,rfl,ho0,hb⟩
    dsimp only
    have HB5:=ak_ (below_step zz47 hb);have HO5:=ak_ (Kd.R_lower ho0 (below_size zz47));clear HB4 HO4 HJ4 ho0 hb
    go_wp2
    go_ret2
    exact ⟨_,rfl,zR HO5.out,by repeat (exact HB5.out)⟩
   | succ g1=>
    have c2:(i:Int)<(n:Int):=by have:=HK.out;omega
    have cb:=decide_eq_true c2;have pi:0<=(i:Int):=by omega
    obtain ⟨gj,cj,ej,gbj,glj,clj,HGj⟩:=Kd.R_form HJ.out (by simp;omega);injection ej with ea_ en_ ec_
    subst ea_;subst ec_;clear en_;obtain ⟨ce,hcl,hM,hcc,hfr⟩:=Kd.R_elem HJ.out z44 (i:Int) pi c2;rw [Int.toNat_natCast,one_get] at hM;obtain rfl:=k44_openM hM;have HP:=Kd.R_seg HJ.out (i:Int) pi c2 (seg:=[.int .i64 1]) (j:=0) hcl hcc (show 1<=4 from by decide) (x':=oneJ) (k44_mkM _ _ _ oneJ) (fun _ hk=>hk);have hx0:=hcc 0 _ rfl;have hf0:=hfr 0
    try simp only [show (k44).sz=4 from rfl,Nat.mul_one,Nat.add_zero,Int.toNat_natCast] at hx0 hf0
    have HW:Aside0 (wrap64 ((i:Int) + 1)=(i:Int) + 1):=⟨by unfold wrap64;have:=HN.out;omega⟩;have HPP:Aside0 (Kd.R k44 44 (wr.setCell ⟨gj,i * 4,none⟩ (.int .i64 1)) w.heap.size (fun _=>True) (.slice (some ⟨gj,0,none⟩) n cJ) (List.replicate (i + 1) oneJ++List.replicate g1 z44)):=⟨by rw [<-one_step];exact HP.1⟩;have GBJ:=ak_ gbj;have HI:Aside0 ((i:Int)<(n:Int)):=⟨c2⟩;have qi:=eq_true c2;replace pi:=eq_true pi;clear c2 hcl hM hcc hfr HP gbj glj HGj
    go_wp2_with (((with_reducible refine gate_store (t:=3) (p:=23) rfl ?_);refine store_event (t:=3) (p:=23) (v:=?vo) (w1:=(wr.setCell ⟨gj,i * 4,none⟩ (.int .i64 1))) ?hg ?ho ?hn ?hr ?_;(case ho=>rfl);(case hg=>rfl);(case hn=>rfl);(case hr=>(go_simp;done));intro w11 hw;have n0_:Aside0 (Kd.R k44 44 w11 w.heap.size (fun _=>True) (.slice (some ⟨gj,0,none⟩) n cJ) (List.replicate (i + 1) oneJ++List.replicate g1 z44)):=⟨by rw [hw];exact HPP.out⟩;have n1_:Aside0 (Below w.heap.size w w11):=⟨by rw [hw];exact below_set HB.out GBJ.out⟩;clear HPP HB HJ;have HJ:=n0_;have HB:=n1_;clear n0_ n1_ hw))
    go_roundg g1
    case measure=>omega
    case rel=>exact ⟨i + 1,(by (simp [HW.out];done)),⟨by have:=HK.out;omega⟩,⟨zR HJ.out⟩,⟨zz14⟩⟩
