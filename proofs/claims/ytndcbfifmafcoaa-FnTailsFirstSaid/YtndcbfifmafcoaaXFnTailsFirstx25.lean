import Derived.Test.YtndcbfifmafcoaaXFnTailsFirstx13
import Derived.Test.YtndcbfifmafcoaaXFnTailsFirstx24
namespace Go.Proofs.Ytndcbfifmafcoaa.XFnTailsFirst
open Go.RowKit Go.Proofs.YtndcbfifmafcoaaW.PrintWords Go.Proofs.YtndcbfifmafcoaaW.PrintLast Go.Proofs.YtndcbfifmafcoaaW.PrintMore
set_option linter.unusedVariables false
set_option linter.unusedSimpArgs false
def impl_eachOrder.l0 {σ:Type} (step:Nat->List Int->σ->Option σ):Nat->List Int->σ->Option σ
 | 0,_,_=>none
 | k + 1,l,s=>(step k l s).bind fun s'=>(impl_nextOrder.f k l).bind fun b=>if b.1=true then impl_eachOrder.l0 step k b.2 s' else some s'
def impl_eachOrder.f {σ:Type} (step:Nat->List Int->σ->Option σ) (k:Nat) (n:Int) (s:σ):Option σ:=(impl_numbersTo.f k n).bind fun l=>impl_eachOrder.l0 step k l s
set_option maxHeartbeats 8000000 in
set_option maxRecDepth 100000 in
theorem impl_eachOrder.calls {σ:Type} (step:Nat->List Int->σ->Option σ) (g:Nat) (eg:∀ args w,(callFunc g args).run Try.prog w=.ok (.enter g args) w) (lb:Array Value) (w:World) (Inv:Nat->σ->World->Prop) (k:Nat) (n:Int) (s r:σ)
  (hinit:∀ W,Below w.heap.size w W->Inv W.heap.size s W)
  (hmove:∀ hi s W W',w.heap.size<=hi->Inv hi s W->Below w.heap.size W W'->Kept W W' (fun k_=>w.heap.size<=k_/\k_<hi)->Inv hi s W')
  (hstep:∀ hi k s s' W A c l,w.heap.size<=hi->hi<=W.heap.size->Inv hi s W->Kd.C (Kd.int .i64) W A l.length l->l.length<=c->step k l s=some s'->Calls Try.prog g (#[.slice A l.length c]++lb) W fun e W'=>e=.returned (.tuple #[])/\Inv hi s' W'/\Kept W W' (fun k_=>k_<w.heap.size))
  (h:impl_eachOrder.f step k n s=some r) :
  Calls Try.prog 36 #[.int .i64 n,.func (.func g) #[] lb] w fun e w'=>e=.returned (.tuple #[])/\∃ hi,w.heap.size<=hi/\hi<=w'.heap.size/\Inv hi r w':=by
 unfold impl_eachOrder.f at h;obtain ⟨l0,h1,h2⟩:=Option.bind_eq_some_iff.1 h;clear h;have EG:=ak_ eg;have HI:=ak_ hinit;have HM:=ak_ hmove;have HS:=ak_ hstep;have H1:=ak_ h1;have H':=ak_ h2;have HB:=ak_ (Below.refl w.heap.size w);clear eg hinit hmove hstep h1 h2
 go_enter Try.func36,Try.ntmps36
 go_wp2_with (fail)
 refine (impl_numbersTo.calls k _ l0 _ H1.out).mono ?_;rintro e w2 ⟨v2,rfl,ho0,hb⟩
 dsimp only
 obtain ⟨hi,hhi⟩:∃ hi,hi=w2.heap.size:=⟨_,rfl⟩;have HI2:Aside0 (Inv hi s w2):=⟨by rw [hhi];exact HI.out w2 (below_step HB.out hb)⟩;have HLE:Aside0 (w.heap.size<=hi/\hi<=w2.heap.size):=⟨by have:=below_size HB.out;have:=below_size hb;omega⟩;have HO_2:Aside0 (Kd.R (Kd.int .i64) 3 w2 w.heap.size (fun k_=>w.heap.size<=k_/\k_<hi) v2 l0):=⟨Kd.R_mono (Kd.R_bound (Kd.R_lower ho0 (below_size HB.out))) (fun k_ hk=>⟨hk.2.1,by rw [hhi];exact hk.2.2.1⟩)⟩;have HB2:=ak_ (below_step HB.out hb);clear HB ho0 hb hhi HI;have HB:=HB2;clear HB2;obtain ⟨A2,c2,e2⟩:=Kd.R_slice HO_2.out;subst e2;obtain ⟨n2,hn2⟩:∃ n2,n2=l0.length:=⟨_,rfl⟩;rw [<-hn2] at HO_2 ⊢;clear hn2
 go_wp2
 go_loopg [] k (fun kq w'=>∃ (l:List Int) (s1:σ),Aside0 (impl_eachOrder.l0 step kq l s1=some r)/\Aside0 (Kd.R (Kd.int .i64) 3 w' w.heap.size (fun k_=>w.heap.size<=k_/\k_<hi) (.slice A2 n2 c2) l)/\Aside0 (Inv hi s1 w')/\Aside0 (w.heap.size<=hi/\hi<=w'.heap.size))
 case atStart=>exact ⟨l0,s,H',HO_2,HI2,HLE⟩
 case round=>
  clear H' HO_2 HI2 HLE HB;obtain ⟨l,s1,HA,HO,HI2,HLE⟩:=hrel;cases gk with
  | zero=>exact absurd HA.out (by simp [impl_eachOrder.l0])
  | succ k1=>
   have H:=HA.out;clear HA;rw [impl_eachOrder.l0] at H;obtain ⟨s2,h1,h2⟩:=Option.bind_eq_some_iff.1 H;obtain ⟨⟨b,l2⟩,h3,h4⟩:=Option.bind_eq_some_iff.1 h2;clear H h2;have H1:=ak_ h1;have H3:=ak_ h3;have H4:=ak_ h4;clear h1 h3 h4;obtain ⟨rfl,hc2⟩:n2=l.length/\n2<=c2:=⟨(Kd.R_reads' HO.out).1,(r1_ HO)⟩;have HC2:=ak_ hc2;clear hc2
   go_wp2
   rw [EG.out,Oper.upon_enter];refine (HS.out hi k1 s1 s2 _ A2 c2 l HLE.out.1 HLE.out.2 HI2.out (r2_ HO) HC2.out H1.out).mono ?_;rintro e w3 ⟨rfl,hi3,hk3⟩
   dsimp only
   have HO3:=ak_ (Kd.R_kept HO.out hk3 (fun k_ h1_ h2_=>by have h3_:=h1_.1;have h4_:k_<w.heap.size:=h2_;omega));have HI3:=ak_ hi3;have HLE3:Aside0 (w.heap.size<=hi/\hi<=w3.heap.size):=⟨by have:=HLE.out;have:=hk3.1;omega⟩;clear HO HI2 HLE hi3 hk3;have HT:Aside0 (∀ k_,(Value.slice A2 l.length c2).ownBlock=some k_->w.heap.size<=k_/\k_<hi):=⟨HO3.out.1⟩;obtain ⟨w0,hw0,hb0⟩:∃ w0:World,w0.heap.size=w.heap.size/\Below w0.heap.size w0 w3:=by
    have hsz:(w3.heap.extract 0 w.heap.size).size=w.heap.size:=by rw [Array.size_extract];have:=HLE3.out;omega
    refine ⟨{w3 with heap:=w3.heap.extract 0 w.heap.size},hsz,rfl,rfl,rfl,?_,fun k_ hk_=>?_⟩
    ·show (w3.heap.extract 0 w.heap.size).size<=w3.heap.size
     rw [hsz];have:=HLE3.out;omega
    ·have hk2_:k_<w.heap.size:=by rw [<-hsz];exact hk_
     show w3.heap[k_]?=(w3.heap.extract 0 w.heap.size)[k_]?
     rw [Array.getElem?_extract,if_pos (by have:=HLE3.out;omega),Nat.zero_add]
   have HW0:=ak_ hw0;have HB0:=ak_ hb0;clear hw0 hb0
   go_wp2_with (fail)
   refine (impl_nextOrder.calls k1 (fun k_=>w.heap.size<=k_/\k_<hi) _ l b l2 w0 w3 HB0.out (by rw [HW0.out];exact HO3.out) H3.out).mono ?_;rintro e w4 ⟨rfl,ho4,hb4,hk4⟩
   dsimp only
   have hb5:Below w.heap.size w3 w4:=⟨hb4.os.trans HB0.out.os.symm,hb4.tape.trans HB0.out.tape.symm,hb4.output.trans HB0.out.output.symm,hk4.1,fun k_ hk_=>(hb4.block k_ (by rw [HW0.out];exact hk_)).trans (HB0.out.block k_ (by rw [HW0.out];exact hk_)).symm⟩;have HI4:Aside0 (Inv hi s2 w4):=⟨HM.out hi s2 w3 w4 HLE3.out.1 HI3.out hb5 hk4⟩;have HO4:Aside0 (Kd.R (Kd.int .i64) 3 w4 w.heap.size (fun k_=>w.heap.size<=k_/\k_<hi) (.slice A2 l.length c2) l2):=⟨by rw [<-HW0.out];exact Kd.R_mono (Kd.R_tight rfl ho4) (fun k_ hk_=>by have:=HT.out k_ hk_.symm;rw [HW0.out];exact this)⟩;have HLE4:Aside0 (w.heap.size<=hi/\hi<=w4.heap.size):=⟨by have:=HLE3.out;have:=hk4.1;omega⟩;clear HO3 HI3 HLE3 HT ho4 hb4 hk4 hb5 HB0 HW0;cases b with
   | true=>
    go_wp2
    go_roundg k1
    case measure=>omega
    case rel=>exact ⟨l2,s2,⟨by have:=H4.out;simpa using this⟩,HO4,HI4,HLE4⟩
   | false=>
    obtain rfl:s2=r:=by have:=H4.out;simpa using this
    go_wp2
    refine bodyPost_ret (results_none rfl _ _ _) rfl ?_;exact ⟨by rfl,hi,HLE4.out.1,HLE4.out.2,HI4.out⟩
