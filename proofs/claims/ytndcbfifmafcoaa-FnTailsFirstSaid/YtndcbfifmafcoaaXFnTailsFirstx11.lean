import Derived.Test.YtndcbfifmafcoaaXFnTailsFirstx10
namespace Go.Proofs.Ytndcbfifmafcoaa.XFnTailsFirst
open Go.RowKit Go.Proofs.YtndcbfifmafcoaaW.PrintWords Go.Proofs.YtndcbfifmafcoaaW.PrintLast Go.Proofs.YtndcbfifmafcoaaW.PrintMore
set_option linter.unusedVariables false
set_option linter.unusedSimpArgs false
def insPos (lt:Int->Int->Bool) (x:Int) (out:List Int):Nat->Nat
 | 0=>0
 | k + 1=>if lt x (out.getD k 0)=true then insPos lt x out k else k + 1
def insAt (lt:Int->Int->Bool) (x:Int) (out:List Int):List Int:=out.take (insPos lt x out out.length)++x::out.drop (insPos lt x out out.length)
def insAll (lt:Int->Int->Bool):List Int->List Int->List Int
 | [],out=>out
 | x::xs,out=>insAll lt xs (insAt lt x out)
theorem insPos_le (lt:Int->Int->Bool) (x:Int) (out:List Int):∀ k,insPos lt x out k<=k
 | 0=>Nat.le_refl _
 | k + 1=>by
  rw [insPos]
  split
  ·exact Nat.le_trans (insPos_le lt x out k) (by omega)
  ·omega
theorem insAt_len (lt:Int->Int->Bool) (x:Int) (out:List Int):(insAt lt x out).length=out.length + 1:=by
 have:=insPos_le lt x out out.length;simp [insAt];omega
theorem insAt_mem {lt:Int->Int->Bool} {x:Int} {out:List Int} {P:Int->Prop} (hx:P x) (ho:∀ y ∈ out,P y):∀ y ∈ insAt lt x out,P y:=by
 intro y hy;unfold insAt at hy;rcases List.mem_append.1 hy with h|h
 ·exact ho y (List.mem_of_mem_take h)
 ·rcases List.mem_cons.1 h with rfl|h
  ·exact hx
  ·exact ho y (List.mem_of_mem_drop h)
theorem insAll_all {lt:Int->Int->Bool} {P:Int->Prop} : ∀ (l out:List Int),(∀ y ∈ l,P y)->(∀ y ∈ out,P y)->∀ y ∈ insAll lt l out,P y
 | [],out,_,ho=>ho
 | x::l,out,hl,ho=>by
  rw [insAll];exact insAll_all l _ (fun y hy=>hl y (List.mem_cons_of_mem _ hy)) (insAt_mem (hl x List.mem_cons_self) ho)
theorem insAll_length (lt:Int->Int->Bool):∀ (l out:List Int),(insAll lt l out).length=l.length + out.length
 | [],out=>by simp [insAll]
 | x::l,out=>by rw [insAll,insAll_length lt l,insAt_len];simp;omega
/-- What a comparison's function value answers, in every world in which all that lay before the call lies unturned. -/
def CmpAt (g:Nat) (lb:Array Value) (lt:Int->Int->Bool) (dom:Int->Prop) (w:World):Prop:=
 ∀ W,Below w.heap.size w W->∀ a b:Int,dom a->dom b->Calls Try.prog g (#[.int .i64 a,.int .i64 b]++lb) W fun e W'=>e=.returned (.bool (lt a b))/\∃ n,W'=W.drewN n
/-- .. and may make memory. -/
def CmpAtB (g:Nat) (lb:Array Value) (lt:Int->Int->Bool) (dom:Int->Prop) (w:World):Prop:=
 ∀ W,Below w.heap.size w W->∀ a b:Int,dom a->dom b->Calls Try.prog g (#[.int .i64 a,.int .i64 b]++lb) W fun e W'=>e=.returned (.bool (lt a b))/\Below W.heap.size W W'
set_option maxHeartbeats 8000000 in
set_option maxRecDepth 100000 in
theorem impl_sortedBy.callsB (g:Nat) (eg:∀ args w,(callFunc g args).run Try.prog w=.ok (.enter g args) w) (lb:Array Value) (lt:Int->Int->Bool) (dom:Int->Prop) (A0:Option Addr) (c0:Nat) (l0:List Int) (w:World) (hr0:Kd.C (Kd.int .i64) w A0 l0.length l0) (hc0:l0.length<=c0) (hdom:∀ x ∈ l0,dom x) (hlen:l0.length<=1048576) (hcmp:CmpAtB g lb lt dom w) :
  Calls Try.prog 28 #[.slice A0 l0.length c0,.func (.func g) #[] lb] w fun e w'=>∃ v0_:Value,e=.returned (v0_)/\Kd.R (Kd.int .i64) 3 w' w.heap.size (fun _=>True) v0_ (insAll lt l0 [])/\Below w.heap.size w w':=by
 have HR0:=ak_ hr0;have HC0:=ak_ hc0;have EG:=ak_ eg;have HCMP:=ak_ hcmp;have HDOM:=ak_ hdom;clear hr0 hc0 eg hcmp hdom;have HB:=ak_ (Below.refl w.heap.size w);have H':Aside0 (insAll lt (l0.drop (0:Int).toNat) []=insAll lt l0 []):=⟨by simp⟩
 go_enter Try.func28,Try.ntmps28
 go_wp2
 go_loopg [5,11] l0.length (fun kq v5 v11 w'=>∃ (x5:List Int) (i:Int),v11=.int .i64 i/\Aside0 (insAll lt (l0.drop i.toNat) x5=insAll lt l0 [])/\Aside0 (0<=i/\i.toNat + kq=l0.length)/\Aside0 (x5.length=i.toNat)/\Aside0 (∀ y ∈ x5,dom y)/\Aside0 (Kd.R (Kd.int .i64) 3 w' w.heap.size (fun _=>True) v5 x5)/\Aside0 (Below w.heap.size w w'))
 case atStart=>exact ⟨[],0,(by rfl),H',⟨by omega⟩,⟨rfl⟩,⟨by simp⟩,⟨Kd.R_nil _ _ _ _ _⟩,⟨zb⟩⟩
 case round=>
  obtain ⟨x5,i,rfl,HA,HK1,HL,HD,HO_5,HB⟩:=hrel;clear H';by_cases c:i<(l0.length:Int);rotate_left
  ·have cb:=decide_eq_false c;have hfin:x5=insAll lt l0 []:=by rw [<-HA.out,List.drop_of_length_le (by have:=HK1.out;omega),insAll]
   subst hfin
   go_wp2
   go_ret
   exact ⟨_,rfl,zR HO_5.out,zb⟩
  have cb:=decide_eq_true c;have p1:0<=i:=HK1.out.1;have q1:i<(l0.length:Int):=c;obtain ⟨ad1,e1,hx1_0⟩:=Kd.at_int HR0.out i p1 q1;cases e1;replace hx1_0:=zh_ HB hx1_0;obtain ⟨x,hx⟩:∃ x:Int,rd l0 i=x:=⟨_,rfl⟩;rw [hx] at hx1_0;obtain ⟨A5,c5,ev5⟩:=Kd.R_slice HO_5.out;subst ev5;clear c;replace p1:=eq_true p1;replace q1:=eq_true q1
  go_wp2
  go_loopg [8] x5.length (fun kq v8 w'=>∃ (k:Int),v8=.int .i64 k/\Aside0 (0<=k/\k.toNat=kq/\kq<=x5.length)/\Aside0 (insPos lt x x5 k.toNat=insPos lt x x5 x5.length)/\Aside0 (Kd.R (Kd.int .i64) 3 w' w.heap.size (fun _=>True) (.slice A5 x5.length c5) x5)/\Aside0 (Below w.heap.size w w'))
  case atStart=>exact ⟨(x5.length:Int),(by rfl),⟨by omega⟩,⟨by simp⟩,HO_5,HB⟩
  case round=>
   clear HO_5 HB;obtain ⟨k,rfl,HK2,HP,HO_5,HB⟩:=hrel;have hxd:dom x:=by rw [<-hx];exact HDOM.out _ (by have h1:=of_eq_true p1;have h2:=of_eq_true q1;rw [rd_int h1 h2];exact List.getElem_mem _)
   by_cases hk:0<k
   rotate_left
   ·have kb:decide (0<k)=false:=decide_eq_false hk;have HPK:Aside0 (insPos lt x x5 x5.length=k.toNat/\0<=k/\k<=x5.length):=⟨by rw [<-HP.out,show k.toNat=0 by omega];exact ⟨rfl,HK2.out.1,by have:=HK2.out;omega⟩⟩
    go_wp2_with (((with_reducible refine gate_builtin (b:=.append) (xs:=#[.tmp 31,.tmp 32]) rfl ?_);at_builtin;refine Kd.R_append (Kd.int .i64) (w0:=w) w.heap.size rfl (.tmp 31) (.tmp 32) 34 3 (.int .i64 0) 8 rfl Try.underlying34 info3 rfl (by decide) (by omega) (.slice A5 x5.length c5) x5 0 [.int .i64 0] (fun _=>True) (fun _=>False) rfl rfl ?aP (fun _ hk=>hk.elim) ?aF ?aO ?aB ?aS ?aL ?_;(case aP=>exact rfl);(case aB=>exact zb);(case aF=>exact (fun _ _=>trivial));(case aO=>exact (zR HO_5.out));(case aS=>exact (below_size zb));(case aL=>have:=HL.out;have:=HK1.out;omega);intro v6 w4 ho hb hg hat;have n0_:=ak_ hb;have n1_:=ak_ ho;clear HB HO_5;have HB:=n0_;have HO_6:=n1_;clear n0_ n1_ ho hb hg hat;obtain ⟨g6,c6,ev6,gb6,gl6,cl6,hg6⟩:=Kd.R_form HO_6.out (by simp);subst ev6;have GB6:=ak_ gb6;have HG6:=ak_ hg6;clear gb6 gl6 hg6))
    obtain ⟨q1,hq1⟩:∃ q:Int,wrap64 (k + 1)=q:=⟨_,rfl⟩;have HQ:Aside0 (q1=k + 1):=⟨by rw [<-hq1];unfold wrap64;have:=HPK.out;have:=HL.out;have:=HK1.out;omega⟩;have hqw:IntKind.i64.wrap (k + 1)=q1:=(i64_w _).trans hq1;obtain ⟨i0_,hi0_,_,hsz_,_⟩:=info_parts info3;have hlen6:x5.length + 1<=c6:=by have:=(r1_ HO_6);simpa using this
    have hcutA:=cut_from (P:=Try.prog) 34 3 .i64 Try.underlying34 hi0_ 1 hsz_ (some ⟨g6,0,none⟩) (x5.length + 1) c6 q1 (by have:=HPK.out;have:=HQ.out;omega) (by have:=HPK.out;have:=HQ.out;omega);have hcutB:=cut_from (P:=Try.prog) 34 3 .i64 Try.underlying34 hi0_ 1 hsz_ (some ⟨g6,0,none⟩) (x5.length + 1) c6 k (by have:=HPK.out;omega) (by have:=HPK.out;omega);obtain ⟨DA,hDA⟩:∃ A1:Option Addr,A1=(if c6=q1.toNat then some (⟨g6,0,none⟩:Addr) else (some (⟨g6,0,none⟩:Addr)).map (·.add (q1.toNat * 1))):=⟨_,rfl⟩;obtain ⟨DB,hDB⟩:∃ A1:Option Addr,A1=(if c6=k.toNat then some (⟨g6,0,none⟩:Addr) else (some (⟨g6,0,none⟩:Addr)).map (·.add (k.toNat * 1))):=⟨_,rfl⟩;rw [<-hDA] at hcutA;rw [<-hDB] at hcutB;have HDA:=ak_ hDA;have HDB:=ak_ hDB;clear hDA hDB;obtain ⟨ys,hys⟩:∃ ys:List Int,ys=x5.drop k.toNat:=⟨_,rfl⟩;have HYS:=ak_ hys;obtain ⟨cs,hcs⟩:∃ cs:List Value,cs=ys.map (fun y=>Value.int .i64 y):=⟨_,rfl⟩;have HCS:=ak_ hcs;clear hys hcs;clear HK2 HR0 HC0 HCMP HDOM
    go_region_law (refine step_copy_splice (by rfl) (.tmp 37) (.tmp 40) 34 34 (by rfl) 3 Try.underlying34 (by rw [hi0_];exact congrArg some hsz_) DA DB (x5.length + 1 - q1.toNat) (c6 - q1.toNat) (x5.length + 1 - k.toNat) (c6 - k.toNat) (by go_simp) (by go_simp) g6 q1.toNat cl6.toList 3 (by rw [Array.toArray_toList];exact HG6.out) cs (sb_hn HPK.out.2.1 HPK.out.2.2 HQ.out HCS.out HYS.out) (sb_hpos HO_6.out HPK.out.2.1 HQ.out hlen6 (HCS.out.trans (by rw [HYS.out])) HDA.out HDB.out) (sb_fit HPK.out.2.1 HPK.out.2.2 HQ.out HCS.out HYS.out hlen6 (sb_size HO_6.out HG6.out)) (sb_one HCS.out) w.heap.size w zb GB6.out ?_;intro w7 hg7 hb7)
    have HO_7:Aside0 (Kd.R (Kd.int .i64) 3 w7 w.heap.size (fun _=>True) (.slice (some ⟨g6,0,none⟩) (x5.length + 1) c6) (splice (x5++[0]) q1.toNat ys)):=⟨by
     have h6:=R_splice HO_6.out HG6.out (off:=q1.toNat) (ys:=ys) (by have h1:=HPK.out;have h2:=HQ.out;rw [HYS.out];simp;omega) (by rw [<-HCS.out];exact hg7);have h8:(x5++[(0:Int)]).length=x5.length + 1:=by simp
     rw [h8] at h6;exact h6⟩
    have HX7:Aside0 ((splice (x5++[0]) q1.toNat ys).set k.toNat x=insAt lt x x5):=⟨by rw [HQ.out,HYS.out,sb_set HPK.out.2.1 HPK.out.2.2,insAt,HPK.out.1]⟩;obtain ⟨xs7,hxs7⟩:∃ xs7:List Int,xs7=splice (x5++[0]) q1.toNat ys:=⟨_,rfl⟩;rw [<-hxs7] at HO_7 HX7;have HB7:=ak_ hb7;clear hb7 hg7 hxs7 HB HO_6 HG6 hcutA hcutB HDA HDB HYS HCS;have HB:=HB7;clear HB7;have p8:0<=k:=HPK.out.2.1;have q8:k<((x5.length + 1:Nat):Int):=by have:=HPK.out;omega
    obtain ⟨hx9_0,hf9_0⟩:=Kd.R_celln 0 HO_7.out k p8 q8;replace p8:=eq_true p8;replace q8:=eq_true q8;have q8c:(k<(x5.length:Int) + 1)=True:=eq_true (by have:=of_eq_true q8;omega);have HP10:=Kd.R_putg HO_7.out k x
    go_wp2_with (((with_reducible refine gate_store (t:=3) (p:=45) rfl ?_);refine store_event (t:=3) (p:=45) (v:=?vo_w11) (w1:=(w7.setCell ⟨g6,k.toNat,none⟩ (.int .i64 x))) ?hg ?ho ?hn ?hr ?_;(case ho=>rfl);(case hg=>rfl);(case hn=>rfl);(case hr=>(go_simp;done));intro w11 hw;have hg:w7.grownBy w11 (some g6):=(by rw [hw];exact HP10.2);have hp_:Kd.R (Kd.int .i64) 3 w11 w.heap.size (fun _=>True) (.slice (some ⟨g6,0,none⟩) (x5.length + 1) c6) (insAt lt x x5):=(by rw [hw,<-HX7.out];exact HP10.1);clear HP10;have HO_3:=ak_ (hp_);replace HB:=ak_ ((by rw [hw];exact below_set (HB.out) GB6.out:Below w.heap.size w w11));clear HO_7;clear hg hw hp_))
    have HW:Aside0 (wrap64 (i + 1)=i + 1):=⟨by unfold wrap64;have h1:=HK1.out;omega⟩
    go_roundg (l0.length - (i.toNat + 1))
    case measure=>have:=HK1.out;have:=od_ cb;omega
    case rel=>
     refine ⟨insAt lt x x5,i + 1,(by (simp [HW.out];done)),⟨?_⟩,⟨?_⟩,⟨?_⟩,⟨?_⟩,⟨?_⟩,⟨?_⟩⟩
     ·have h1:=HK1.out;have h2:=od_ cb;rw [<-HA.out,show (i + 1).toNat=i.toNat + 1 by omega,List.drop_eq_getElem_cons (show i.toNat<l0.length by omega),insAll,<-rd_int h1.1 h2,hx]
     ·have h1:=HK1.out;have:=od_ cb;omega
     ·rw [insAt_len];have h1:=HL.out;have:=HK1.out;omega
     ·exact insAt_mem hxd HD.out
     ·(with_reducible repeat (apply Kd.R_alloc));exact HO_3.out
     ·repeat ((with_reducible exact HB.out))
   have kb:decide (0<k)=true:=decide_eq_true hk;obtain ⟨j,hj⟩:∃ j:Int,wrap64 (k - 1)=j:=⟨_,rfl⟩;have HJ:Aside0 (j=k - 1):=⟨by rw [<-hj];unfold wrap64;have:=HK2.out;have:=HL.out;have:=HK1.out;omega⟩;have hw:IntKind.i64.wrap (k - 1)=j:=(i64_w _).trans hj;have p2:0<=j:=by have:=HJ.out;omega
   have q2:j<(x5.length:Int):=by have:=HK2.out;have:=HJ.out;omega
   obtain ⟨ad2,e2,hx2_0⟩:=Kd.at_int (r2_ HO_5) j p2 q2;subst e2;obtain ⟨y,hy⟩:∃ y:Int,rd x5 j=y:=⟨_,rfl⟩;have hyd:dom y:=by rw [<-hy,rd_int p2 q2];exact HD.out _ (List.getElem_mem _)
   rw [hy] at hx2_0;replace p2:=eq_true p2;replace q2:=eq_true q2;by_cases hl:lt x y=true
   ·go_wp2
    rw [EG.out,Oper.upon_enter];have hcall:=HCMP.out _ HB.out x y hxd hyd;rw [hl] at hcall;refine hcall.mono ?_;rintro e w' ⟨rfl,hb_⟩;clear hcall
    dsimp only
    replace HO_5:=ak_ (Kd.R_below HO_5.out hb_);replace HB:=ak_ (below_step HB.out hb_);clear hb_
    go_wp2
    go_roundg j.toNat
    case measure=>have:=HK2.out;have:=HJ.out;omega
    case rel=>exact ⟨j,zo,⟨by have:=HK2.out;have:=HJ.out;omega⟩,⟨by rw [<-HP.out,show k.toNat=j.toNat + 1 by have:=HJ.out;have:=HK2.out;omega,insPos,if_pos (by rw [<-hl,<-hy,rd_int (of_eq_true p2) (of_eq_true q2)];simp [show j.toNat<x5.length by have:=of_eq_true q2;have:=of_eq_true p2;omega])]⟩,⟨zR HO_5.out⟩,⟨zb⟩⟩
   have hk0:=hk;have hlf:lt x y=false:=by simpa using hl
   go_wp2
   rw [EG.out,Oper.upon_enter];have hcall:=HCMP.out _ HB.out x y hxd hyd;rw [hlf] at hcall;refine hcall.mono ?_;rintro e w' ⟨rfl,hb_⟩;clear hcall
   dsimp only
   replace HO_5:=ak_ (Kd.R_below HO_5.out hb_);replace HB:=ak_ (below_step HB.out hb_);clear hb_;have HPK:Aside0 (insPos lt x x5 x5.length=k.toNat/\0<=k/\k<=x5.length):=⟨by rw [<-HP.out,show k.toNat=j.toNat + 1 by have:=HJ.out;have:=HK2.out;omega,insPos,if_neg (by rw [<-hy,rd_int (of_eq_true p2) (of_eq_true q2)] at hl;simpa [show j.toNat<x5.length by have:=of_eq_true q2;have:=of_eq_true p2;omega] using hl)];exact ⟨rfl,by have:=HK2.out;omega,by have:=HK2.out;omega⟩⟩
   go_wp2_with (((with_reducible refine gate_builtin (b:=.append) (xs:=#[.tmp 31,.tmp 32]) rfl ?_);at_builtin;refine Kd.R_append (Kd.int .i64) (w0:=w) w.heap.size rfl (.tmp 31) (.tmp 32) 34 3 (.int .i64 0) 8 rfl Try.underlying34 info3 rfl (by decide) (by omega) (.slice (some ad2) x5.length c5) x5 0 [.int .i64 0] (fun _=>True) (fun _=>False) rfl rfl ?aP (fun _ hk=>hk.elim) ?aF ?aO ?aB ?aS ?aL ?_;(case aP=>exact rfl);(case aB=>exact zb);(case aF=>exact (fun _ _=>trivial));(case aO=>exact (zR HO_5.out));(case aS=>exact (below_size zb));(case aL=>have:=HL.out;have:=HK1.out;omega);intro v6 w4 ho hb hg hat;have n0_:=ak_ hb;have n1_:=ak_ ho;clear HB HO_5;have HB:=n0_;have HO_6:=n1_;clear n0_ n1_ ho hb hg hat;obtain ⟨g6,c6,ev6,gb6,gl6,cl6,hg6⟩:=Kd.R_form HO_6.out (by simp);subst ev6;have GB6:=ak_ gb6;have HG6:=ak_ hg6;clear gb6 gl6 hg6))
   obtain ⟨q1,hq1⟩:∃ q:Int,wrap64 (k + 1)=q:=⟨_,rfl⟩;have HQ:Aside0 (q1=k + 1):=⟨by rw [<-hq1];unfold wrap64;have:=HPK.out;have:=HL.out;have:=HK1.out;omega⟩;have hqw:IntKind.i64.wrap (k + 1)=q1:=(i64_w _).trans hq1;obtain ⟨i0_,hi0_,_,hsz_,_⟩:=info_parts info3;have hlen6:x5.length + 1<=c6:=by have:=(r1_ HO_6);simpa using this
   have hcutA:=cut_from (P:=Try.prog) 34 3 .i64 Try.underlying34 hi0_ 1 hsz_ (some ⟨g6,0,none⟩) (x5.length + 1) c6 q1 (by have:=HPK.out;have:=HQ.out;omega) (by have:=HPK.out;have:=HQ.out;omega);have hcutB:=cut_from (P:=Try.prog) 34 3 .i64 Try.underlying34 hi0_ 1 hsz_ (some ⟨g6,0,none⟩) (x5.length + 1) c6 k (by have:=HPK.out;omega) (by have:=HPK.out;omega);obtain ⟨DA,hDA⟩:∃ A1:Option Addr,A1=(if c6=q1.toNat then some (⟨g6,0,none⟩:Addr) else (some (⟨g6,0,none⟩:Addr)).map (·.add (q1.toNat * 1))):=⟨_,rfl⟩;obtain ⟨DB,hDB⟩:∃ A1:Option Addr,A1=(if c6=k.toNat then some (⟨g6,0,none⟩:Addr) else (some (⟨g6,0,none⟩:Addr)).map (·.add (k.toNat * 1))):=⟨_,rfl⟩;rw [<-hDA] at hcutA;rw [<-hDB] at hcutB;have HDA:=ak_ hDA;have HDB:=ak_ hDB;clear hDA hDB;obtain ⟨ys,hys⟩:∃ ys:List Int,ys=x5.drop k.toNat:=⟨_,rfl⟩;have HYS:=ak_ hys;obtain ⟨cs,hcs⟩:∃ cs:List Value,cs=ys.map (fun y=>Value.int .i64 y):=⟨_,rfl⟩;have HCS:=ak_ hcs;clear hys hcs;clear HK2 HR0 HC0 HCMP HDOM
   go_region_law (refine step_copy_splice (by rfl) (.tmp 37) (.tmp 40) 34 34 (by rfl) 3 Try.underlying34 (by rw [hi0_];exact congrArg some hsz_) DA DB (x5.length + 1 - q1.toNat) (c6 - q1.toNat) (x5.length + 1 - k.toNat) (c6 - k.toNat) (by go_simp) (by go_simp) g6 q1.toNat cl6.toList 3 (by rw [Array.toArray_toList];exact HG6.out) cs (sb_hn HPK.out.2.1 HPK.out.2.2 HQ.out HCS.out HYS.out) (sb_hpos HO_6.out HPK.out.2.1 HQ.out hlen6 (HCS.out.trans (by rw [HYS.out])) HDA.out HDB.out) (sb_fit HPK.out.2.1 HPK.out.2.2 HQ.out HCS.out HYS.out hlen6 (sb_size HO_6.out HG6.out)) (sb_one HCS.out) w.heap.size w zb GB6.out ?_;intro w7 hg7 hb7)
   have HO_7:Aside0 (Kd.R (Kd.int .i64) 3 w7 w.heap.size (fun _=>True) (.slice (some ⟨g6,0,none⟩) (x5.length + 1) c6) (splice (x5++[0]) q1.toNat ys)):=⟨by
    have h6:=R_splice HO_6.out HG6.out (off:=q1.toNat) (ys:=ys) (by have h1:=HPK.out;have h2:=HQ.out;rw [HYS.out];simp;omega) (by rw [<-HCS.out];exact hg7);have h8:(x5++[(0:Int)]).length=x5.length + 1:=by simp
    rw [h8] at h6;exact h6⟩
   have HX7:Aside0 ((splice (x5++[0]) q1.toNat ys).set k.toNat x=insAt lt x x5):=⟨by rw [HQ.out,HYS.out,sb_set HPK.out.2.1 HPK.out.2.2,insAt,HPK.out.1]⟩;obtain ⟨xs7,hxs7⟩:∃ xs7:List Int,xs7=splice (x5++[0]) q1.toNat ys:=⟨_,rfl⟩;rw [<-hxs7] at HO_7 HX7;have HB7:=ak_ hb7;clear hb7 hg7 hxs7 HB HO_6 HG6 hcutA hcutB HDA HDB HYS HCS;have HB:=HB7;clear HB7;have p8:0<=k:=HPK.out.2.1;have q8:k<((x5.length + 1:Nat):Int):=by have:=HPK.out;omega
   obtain ⟨hx9_0,hf9_0⟩:=Kd.R_celln 0 HO_7.out k p8 q8;replace p8:=eq_true p8;replace q8:=eq_true q8;have q8c:(k<(x5.length:Int) + 1)=True:=eq_true (by have:=of_eq_true q8;omega);have HP10:=Kd.R_putg HO_7.out k x
   go_wp2_with (((with_reducible refine gate_store (t:=3) (p:=45) rfl ?_);refine store_event (t:=3) (p:=45) (v:=?vo_w11) (w1:=(w7.setCell ⟨g6,k.toNat,none⟩ (.int .i64 x))) ?hg ?ho ?hn ?hr ?_;(case ho=>rfl);(case hg=>rfl);(case hn=>rfl);(case hr=>(go_simp;done));intro w11 hw;have hg:w7.grownBy w11 (some g6):=(by rw [hw];exact HP10.2);have hp_:Kd.R (Kd.int .i64) 3 w11 w.heap.size (fun _=>True) (.slice (some ⟨g6,0,none⟩) (x5.length + 1) c6) (insAt lt x x5):=(by rw [hw,<-HX7.out];exact HP10.1);clear HP10;have HO_3:=ak_ (hp_);replace HB:=ak_ ((by rw [hw];exact below_set (HB.out) GB6.out:Below w.heap.size w w11));clear HO_7;clear hg hw hp_))
   have HW:Aside0 (wrap64 (i + 1)=i + 1):=⟨by unfold wrap64;have h1:=HK1.out;omega⟩
   go_roundg (l0.length - (i.toNat + 1))
   case measure=>have:=HK1.out;have:=od_ cb;omega
   case rel=>
    refine ⟨insAt lt x x5,i + 1,(by (simp [HW.out];done)),⟨?_⟩,⟨?_⟩,⟨?_⟩,⟨?_⟩,⟨?_⟩,⟨?_⟩⟩
    ·have h1:=HK1.out;have h2:=od_ cb;rw [<-HA.out,show (i + 1).toNat=i.toNat + 1 by omega,List.drop_eq_getElem_cons (show i.toNat<l0.length by omega),insAll,<-rd_int h1.1 h2,hx]
    ·have h1:=HK1.out;have:=od_ cb;omega
    ·rw [insAt_len];have h1:=HL.out;have:=HK1.out;omega
    ·exact insAt_mem hxd HD.out
    ·(with_reducible repeat (apply Kd.R_alloc));exact HO_3.out
    ·repeat ((with_reducible exact HB.out))
theorem impl_sortedBy.calls (g:Nat) (eg:∀ args w,(callFunc g args).run Try.prog w=.ok (.enter g args) w) (lb:Array Value) (lt:Int->Int->Bool) (dom:Int->Prop) (A0:Option Addr) (c0:Nat) (l0:List Int) (w:World) (hr0:Kd.C (Kd.int .i64) w A0 l0.length l0) (hc0:l0.length<=c0) (hdom:∀ x ∈ l0,dom x) (hlen:l0.length<=1048576) (hcmp:CmpAt g lb lt dom w) :
  Calls Try.prog 28 #[.slice A0 l0.length c0,.func (.func g) #[] lb] w fun e w'=>∃ v0_:Value,e=.returned (v0_)/\Kd.R (Kd.int .i64) 3 w' w.heap.size (fun _=>True) v0_ (insAll lt l0 [])/\Below w.heap.size w w':=by
 refine impl_sortedBy.callsB g eg lb lt dom A0 c0 l0 w hr0 hc0 hdom hlen fun W hW a b ha hb=>(hcmp W hW a b ha hb).mono ?_
 rintro e W' ⟨he,n,rfl⟩;exact ⟨he,pw_below_drewN (Below.refl _ _) n⟩
