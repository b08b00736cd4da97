import Derived.Test.YtndcbfifmafcoaaXFnTailsFirstx6
import Derived.Test.YtndcbfifmafcoaaXFnTailsFirstx10
namespace Go.Proofs.Ytndcbfifmafcoaa.XFnTailsFirst
set_option maxRecDepth 100000
set_option maxHeartbeats 8000000
open Go.RowKit Go.Proofs.YtndcbfifmafcoaaW.PrintWords Go.Proofs.YtndcbfifmafcoaaW.PrintLast Go.Proofs.YtndcbfifmafcoaaW.PrintMore
set_option linter.unusedVariables false
set_option linter.unusedSimpArgs false
def lpRow (B:List (List Bool)) (j:Int):List Bool:=B.getD j.toNat []
theorem lp_row {w:World} {A:Option Addr} {n:Nat} {xs:List (List Bool)} (h:Kd.C (Kd.slice 4 Kd.bool) w A n xs) (i:Int) (h0:0<=i) (h1:i<n):∃ ad A0 c0,A=some ad/\w.cell? (ad.add i.toNat)=some (.slice A0 (lpRow xs i).length c0)/\(lpRow xs i).length<=c0/\Kd.bool.C w A0 (lpRow xs i).length (lpRow xs i):=by
 obtain ⟨ad,c,e,_,hK,hc0⟩:=Kd.C_get h ([]:List Bool) i h0 h1;have hc:∀ j u,c[j]?=some u->w.cell? (ad.add (i.toNat * 1 + j))=some u:=hc0;obtain ⟨A0,c0,rfl,l0,g0⟩:=hK;exact ⟨ad,A0,c0,e,by have hq:=hc 0 _ rfl;rwa [Nat.mul_one,Nat.add_zero] at hq,l0,g0⟩
theorem lp_rowlen {B:List (List Bool)} {n:Nat} (h:∀ r ∈ B,r.length=n) {i:Int} (h0:0<=i) (h1:i<B.length):(lpRow B i).length=n:=by
 have hh:i.toNat<B.length:=by omega
 rw [lpRow,List.getD_eq_getElem?_getD,List.getElem?_eq_getElem hh];exact h _ (List.getElem_mem hh)
def lpBusy (l0:List S44) (B:List (List Bool)) (out:List S73) (st:List Bool) (i t:Int) (j:Int):Bool:=rdOf false (lpRow B j) i && (!rdOf false st j || decide (t<wrap64 ((rd_T73 out j).f2 + (rd_T44 l0 j).f0)))
def lpReady (l0:List S44) (B:List (List Bool)) (out:List S73) (st:List Bool) (i t:Int):Bool:= !rdOf false st i && (List.range l0.length).all fun j=> !lpBusy l0 B out st i t (j:Int)
theorem lp_all {p:Nat->Bool} {n:Nat} (h:∀ j,j<n->p j=false):((List.range n).all fun j=> !p j)=true:=by
 rw [List.all_eq_true];intro j hj;rw [h j (List.mem_range.1 hj)];rfl
theorem lp_any {p:Nat->Bool} {n j:Nat} (hj:j<n) (h:p j=true):((List.range n).all fun j=> !p j)=false:=by
 rw [List.all_eq_false];exact ⟨j,List.mem_range.2 hj,by simp [h]⟩
theorem impl_listPlan1.calls (bs bj bb bo:Nat) (A0:Option Addr) (c0:Nat) (l0:List (S44)) (vB vO vS:Value) (B:List (List Bool)) (out:List S73) (st:List Bool) (i t:Int) (W:World) (bB bO bS:Nat) (kB kO kS:Nat->Prop)
  (hc0:l0.length<=c0) (hr0:Kd.C k44 W A0 l0.length l0) (hB:Kd.S (Kd.slice 4 Kd.bool) 80 W bB kB vB B) (hO:Kd.R k73 73 W bO kO vO out) (hS:Kd.R Kd.bool 4 W bS kS vS st)
  (xs:Boxed W bs 80 vS) (xj:Boxed W bj 24 (.slice A0 l0.length c0)) (xb:Boxed W bb 75 vB) (xo:Boxed W bo 28 vO)
  (hi:0<=i/\i<l0.length) (hn:B.length=l0.length/\(∀ r ∈ B,r.length=l0.length)/\out.length=l0.length/\st.length=l0.length) (h8:l0.length<=1048576) :
  Calls Try.prog 54 #[.int .i64 i,.int .i64 t,.pointer (some ⟨bs,0,none⟩),.pointer (some ⟨bj,0,none⟩),.pointer (some ⟨bb,0,none⟩),.pointer (some ⟨bo,0,none⟩)] W fun e W'=>e=.returned (.bool (lpReady l0 B out st i t))/\Below W.heap.size W W':=by
 obtain ⟨AB,cB,rfl⟩:=Kd.S_slice hB;obtain ⟨AO,cO,rfl⟩:=Kd.R_slice hO;obtain ⟨AS,cS,rfl⟩:=Kd.R_slice hS;have CB:=ak_ (Kd.S_reads' hB).2.2;have CO:=ak_ (Kd.R_reads' hO).2.2;have CS:=ak_ (Kd.R_reads' hS).2.2;have HR0:=ak_ hr0;have BS:=ak_ xs;have BJ:=ak_ xj;have BB:=ak_ xb;have BO:=ak_ xo;have HN:=ak_ hn;have HI:=ak_ hi;have H8:=ak_ h8;have XS:=xs.cell;have XJ:=xj.cell;clear hB hO hS hr0 xs xj xb xo hc0 h8;obtain ⟨ad1,e1,hx1⟩:=Kd.at_bool CS.out i hi.1 (by have:=hn.2.2.2;omega);subst e1;have p1:=eq_true hi.1;have q1:=eq_true (show i<(st.length:Int) by have:=hn.2.2.2;omega);clear hi hn;unfold lpReady;by_cases hst:rdOf false st i=true
 ·rw [hst] at hx1 ⊢
  go_enter Try.func54,Try.ntmps54
  go_wp2
  go_ret
  exact ⟨rfl,zz10⟩
 have hsf:rdOf false st i=false:=by simpa using hst
 rw [hsf] at hx1 ⊢;clear hst;simp only [Bool.not_false,Bool.true_and]
 go_enter Try.func54,Try.ntmps54
 go_wp2
 clear hx1 p1 q1 XS XJ
 go_loopg [16] l0.length (fun kq v16 w'=>∃ (j:Int),v16=.int .i64 j/\Aside0 (0<=j/\j.toNat + kq=l0.length)/\Aside0 (∀ j':Nat,j'<j.toNat->lpBusy l0 B out st i t (j':Int)=false)/\Aside0 (Below W.heap.size W w'))
 case atStart=>exact ⟨0,(by rfl),⟨by omega⟩,⟨fun j' h=>absurd h (by simp)⟩,⟨zz10⟩⟩
 case round=>
  obtain ⟨j,rfl,HK1,HNO,HB⟩:=hrel;by_cases c:j<(l0.length:Int);rotate_left
  ·have cb:=decide_eq_false c;have HAL:Aside0 (((List.range l0.length).all fun j=> !lpBusy l0 B out st i t (j:Int))=true):=⟨lp_all fun j' h=>HNO.out j' (by have:=HK1.out;omega)⟩;clear c
   go_wp2
   go_ret
   exact ⟨by rw [HAL.out];rfl,zz51⟩
  have cb:=decide_eq_true c;have p2:0<=j:=HK1.out.1;have q2:j<(l0.length:Int):=c;have q3:j<(B.length:Int):=by rw [HN.out.1];exact c
  have q4:j<(st.length:Int):=by rw [HN.out.2.2.2];exact c
  have q5:j<(out.length:Int):=by rw [HN.out.2.2.1];exact c
  have p6:0<=i:=HI.out.1;have q6:i<((lpRow B j).length:Int):=by rw [lp_rowlen HN.out.2.1 p2 q3];exact HI.out.2
  clear c;obtain ⟨ad2,Ar,cr,e2,hx2,_,hi2⟩:=lp_row (Kd.C_below CB.out HB.out) j p2 q3;obtain ⟨ad3,e3,hx3⟩:=Kd.at_bool hi2 i p6 q6;obtain ⟨ad4,e4,hx4⟩:=Kd.at_bool (Kd.C_below CS.out HB.out) j p2 q4;obtain ⟨ad5,e5,hx5_0,hx5_1,hx5_2⟩:=at_T73 (Kd.C_below CO.out HB.out) j p2 q5;obtain ⟨ad6,e6,hx6_0,hx6_1,hx6_2,hx6_3⟩:=at_T44 (Kd.C_below HR0.out HB.out) j p2 q2;subst e2;subst e3;subst e5;subst e6;obtain rfl:ad1=ad4:=by injection e4
  have XS:=(boxed_below BS.out HB.out).cell;have XJ:=(boxed_below BJ.out HB.out).cell;have XB:=(boxed_below BB.out HB.out).cell;have XO:=(boxed_below BO.out HB.out).cell;clear hi2 e4 hx5_0 hx5_1 hx6_1 hx6_2 hx6_3;have HBU:Aside0 (∀ b,lpBusy l0 B out st i t j=b->lpBusy l0 B out st i t ((j.toNat:Nat):Int)=b):=⟨fun b h=>by rw [show ((j.toNat:Nat):Int)=j by omega];exact h⟩;have HJ:Aside0 (j.toNat<l0.length):=⟨by omega⟩;have HST:Aside0 (wrap64 (j + 1)=j + 1):=⟨by unfold wrap64;have:=H8.out;omega⟩;replace p2:=eq_true p2;replace q2:=eq_true q2;replace q3:=eq_true q3;replace q4:=eq_true q4;replace q5:=eq_true q5;replace p6:=eq_true p6;replace q6:=eq_true q6;obtain ⟨b1,hb1⟩:∃ b_:Bool,b_=rdOf false (lpRow B j) i:=⟨_,rfl⟩;obtain ⟨b2,hb2⟩:∃ b_:Bool,b_=rdOf false st j:=⟨_,rfl⟩;obtain ⟨n1,hn1⟩:∃ n_:Int,n_=(rd_T73 out j).f2:=⟨_,rfl⟩;obtain ⟨n2,hn2⟩:∃ n_:Int,n_=(rd_T44 l0 j).f0:=⟨_,rfl⟩;have HBY:Aside0 (lpBusy l0 B out st i t j=(b1 && (!b2 || decide (t<wrap64 (n1 + n2))))):=⟨by rw [lpBusy,hb1,hb2,hn1,hn2]⟩;rw [<-hb1] at hx3;rw [<-hb2] at hx4;rw [<-hn1] at hx5_2;rw [<-hn2] at hx6_0;clear hb1 hb2 hn1 hn2;have hcase:Aside0 ((b1=false)\/(b1=true/\b2=false)\/(b1=true/\b2=true/\decide (t<wrap64 (n1 + n2))=true)\/(b1=true/\b2=true/\decide (t<wrap64 (n1 + n2))=false)):=⟨by cases b1 <;> cases b2 <;> cases decide (t<wrap64 (n1 + n2)) <;> simp⟩;rcases hcase.out with h1 | ⟨h1,h2⟩ | ⟨h1,h2,h3⟩ | ⟨h1,h2,h3⟩
  ·subst h1;have HF:Aside0 (lpBusy l0 B out st i t j=false):=⟨by rw [HBY.out];rfl⟩;clear HBY hcase;cases b2 <;>
   ·go_wp2
    go_region
    all_goals
     go_wp2
     go_roundg (l0.length - (j.toNat + 1))
     case measure=>have:=HK1.out;have:=HJ.out;omega
     case rel=>
      refine ⟨j + 1,(by (simp [HST.out];done)),⟨by have:=HK1.out;have:=HJ.out;omega⟩,⟨fun j' h=>?_⟩,⟨zz51⟩⟩;by_cases e:j'=j.toNat
      ·rw [e];exact HBU.out _ HF.out
      ·exact HNO.out j' (by have:=HK1.out;omega)
  ·subst h1;subst h2;have HF:Aside0 (lpBusy l0 B out st i t j=true):=⟨by rw [HBY.out];rfl⟩;clear HBY hcase
   go_wp2
   go_region
   all_goals
    go_wp2
    go_ret
    exact ⟨by rw [lp_any HJ.out (HBU.out _ HF.out)];rfl,zz51⟩
  ·subst h1;subst h2;have HF:Aside0 (lpBusy l0 B out st i t j=true):=⟨by rw [HBY.out,h3];rfl⟩;clear HBY hcase
   go_wp2
   go_region
   all_goals
    go_wp2
    go_ret
    exact ⟨by rw [lp_any HJ.out (HBU.out _ HF.out)];rfl,zz51⟩
  ·subst h1;subst h2;have HF:Aside0 (lpBusy l0 B out st i t j=false):=⟨by rw [HBY.out,h3];rfl⟩;clear HBY hcase
   go_wp2
   go_region
   all_goals
    go_wp2
    go_roundg (l0.length - (j.toNat + 1))
    case measure=>have:=HK1.out;have:=HJ.out;omega
    case rel=>
     refine ⟨j + 1,(by (simp [HST.out];done)),⟨by have:=HK1.out;have:=HJ.out;omega⟩,⟨fun j' h=>?_⟩,⟨zz51⟩⟩;by_cases e:j'=j.toNat
     ·rw [e];exact HBU.out _ HF.out
     ·exact HNO.out j' (by have:=HK1.out;omega)
structure LpS where
 out:List S73
 st:List Bool
 free:List Int
 left:Int
def lpStep (l0:List S44) (B:List (List Bool)) (order:List Int) (t:Int) (s:LpS) (mm:Nat):LpS:=
 if rd s.free mm>t then s else match order.find? (fun i=>lpReady l0 B s.out s.st i t) with
  | none=>s
  | some i=>⟨s.out.set i.toNat ⟨i,mm,t⟩,s.st.set i.toNat true,s.free.set mm (wrap64 (t + (rd_T44 l0 i).f0)),wrap64 (s.left - 1)⟩
def lpRun (l0:List S44) (B:List (List Bool)) (order:List Int) (t:Int):Nat->Nat->LpS->LpS
 | 0,_,s=>s
 | c + 1,mm,s=>lpRun l0 B order t c (mm + 1) (lpStep l0 B order t s mm)
def impl_listPlan.l0 (l0:List S44) (B:List (List Bool)) (order:List Int) (m:Nat):Nat->LpS->Int->Option (List S73)
 | 0,_,_=>none
 | k + 1,s,t=>if 0<s.left then impl_listPlan.l0 l0 B order m k (lpRun l0 B order t m 0 s) (wrap64 (t + 1)) else some s.out
def lpGood (l0:List S44) (m:Int) (B:List (List Bool)) (order:List Int):Prop:=(0<=m/\m<=1048576)/\l0.length<=1048576/\(B.length=l0.length/\∀ r ∈ B,r.length=l0.length)/\order.length<=1048576/\∀ x ∈ order,0<=x/\x<(l0.length:Int)
instance (l0:List S44) (m:Int) (B:List (List Bool)) (order:List Int):Decidable (lpGood l0 m B order):=by unfold lpGood;infer_instance
def lpStart (l0:List S44) (m:Int):LpS:=⟨List.replicate l0.length z73,List.replicate l0.length false,List.replicate m.toNat 0,(l0.length:Int)⟩
def impl_listPlan.f (k:Nat) (l0:List S44) (m:Int) (l2:List S42) (order:List Int):Option (List S73):=(impl_closure.f k (l0.length:Int) l2).bind fun B=>if lpGood l0 m B order then impl_listPlan.l0 l0 B order m.toNat k (lpStart l0 m) 0 else none
/-- What memory holds inside the loops. -/
structure LpF (w:World) (A0:Option Addr) (c0:Nat) (l0:List S44) (bj bb bo bs:Nat) (vB vO vS vF:Value) (B:List (List Bool)) (n m:Nat) (s:LpS) (W:World):Prop where
 below:Below w.heap.size w W
 lens:s.out.length=n/\s.st.length=n/\s.free.length=m
 bxj:Boxed W bj 24 (.slice A0 l0.length c0)
 bxb:Boxed W bb 75 vB
 bxo:Boxed W bo 28 vO
 bxs:Boxed W bs 80 vS
 tb:Kd.S (Kd.slice 4 Kd.bool) 80 W w.heap.size (fun k_=>True/\some k_≠vS.ownBlock) vB B
 out:Kd.R k73 73 W w.heap.size (fun _=>True) vO s.out
 st:Kd.R Kd.bool 4 W w.heap.size (fun _=>True) vS s.st
 free:Kd.R (Kd.int .i64) 3 W w.heap.size (fun _=>True) vF s.free
theorem LpF.step {w:World} {A0:Option Addr} {c0:Nat} {l0:List S44} {bj bb bo bs:Nat} {vB vO vS vF:Value} {B:List (List Bool)} {n m:Nat} {s:LpS} {W W':World} (h:LpF w A0 c0 l0 bj bb bo bs vB vO vS vF B n m s W) (hb:Below W.heap.size W W'):LpF w A0 c0 l0 bj bb bo bs vB vO vS vF B n m s W':=
 ⟨below_step h.below hb,h.lens,boxed_below h.bxj hb,boxed_below h.bxb hb,boxed_below h.bxo hb,boxed_below h.bxs hb,Kd.S_below h.tb hb,Kd.R_below h.out hb,Kd.R_below h.st hb,Kd.R_below h.free hb⟩
theorem boxed_row {W W':World} {b g t e:Nat} {u:Value} {cells:Array Value} (h:Boxed W b t u) (hc:W.heap[g]?=some (.cells cells e (0,0))) (hte:t≠e) (hg:W.grownBy W' (some g)):Boxed W' b t u:=by
 refine h.kept hg fun e_=>?_
 injection e_ with e_
 subst e_;have h2:W.heap[b]?=_:=h;rw [h2] at hc;injection hc with hc
 injection hc with _ hc _
 exact hte hc
theorem LpF.putS {w:World} {A0:Option Addr} {c0:Nat} {l0:List S44} {bj bb bo bs g c:Nat} {vB vO vF:Value} {B:List (List Bool)} {n m:Nat} {s:LpS} {W:World} (h:LpF w A0 c0 l0 bj bb bo bs vB vO (.slice (some ⟨g,0,none⟩) n c) vF B n m s W) (hp:0<n) (i:Int):LpF w A0 c0 l0 bj bb bo bs vB vO (.slice (some ⟨g,0,none⟩) n c) vF B n m {s with st:=s.st.set i.toNat true} (W.setCell ⟨g,i.toNat,none⟩ (.bool true)):=by
 obtain ⟨g2,c2,e2,gb,gl,cl,hc⟩:=Kd.R_form h.st (by have:=h.lens;omega);cases e2;obtain ⟨hr,hg⟩:=Kd.R_putg h.st i true;exact ⟨below_set h.below gb,⟨h.lens.1,by simp [h.lens.2.1],h.lens.2.2⟩,boxed_row h.bxj hc (by decide) hg,boxed_row h.bxb hc (by decide) hg,boxed_row h.bxo hc (by decide) hg,boxed_row h.bxs hc (by decide) hg,Kd.S_grown h.tb hg (fun k hk=>hk.2),Kd.R_over' (v:=.slice (some ⟨g,0,none⟩) s.st.length c) h.out (by intro k hk;exact Kd.R_typed h.st k hk) (by decide) hg,hr,Kd.R_over' (v:=.slice (some ⟨g,0,none⟩) s.st.length c) h.free (by intro k hk;exact Kd.R_typed h.st k hk) (by decide) hg⟩
theorem LpF.putF {w:World} {A0:Option Addr} {c0:Nat} {l0:List S44} {bj bb bo bs g c:Nat} {vB vO vS:Value} {B:List (List Bool)} {n m:Nat} {s:LpS} {W:World} (h:LpF w A0 c0 l0 bj bb bo bs vB vO vS (.slice (some ⟨g,0,none⟩) m c) B n m s W) (hp:0<m) (i:Int) (x:Int):LpF w A0 c0 l0 bj bb bo bs vB vO vS (.slice (some ⟨g,0,none⟩) m c) B n m {s with free:=s.free.set i.toNat x} (W.setCell ⟨g,i.toNat,none⟩ (.int .i64 x)):=by
 obtain ⟨g2,c2,e2,gb,gl,cl,hc⟩:=Kd.R_form h.free (by have:=h.lens;omega);cases e2;obtain ⟨hr,hg⟩:=Kd.R_putg h.free i x;exact ⟨below_set h.below gb,⟨h.lens.1,h.lens.2.1,by simp [h.lens.2.2]⟩,boxed_row h.bxj hc (by decide) hg,boxed_row h.bxb hc (by decide) hg,boxed_row h.bxo hc (by decide) hg,boxed_row h.bxs hc (by decide) hg,Kd.S_over' (v:=.slice (some ⟨g,0,none⟩) s.free.length c) h.tb (by intro k hk;exact Kd.R_typed h.free k hk) (by decide) hg,Kd.R_over' (v:=.slice (some ⟨g,0,none⟩) s.free.length c) h.out (by intro k hk;exact Kd.R_typed h.free k hk) (by decide) hg,Kd.R_over' (v:=.slice (some ⟨g,0,none⟩) s.free.length c) h.st (by intro k hk;exact Kd.R_typed h.free k hk) (by decide) hg,hr⟩
theorem LpF.putO {w:World} {A0:Option Addr} {c0:Nat} {l0:List S44} {bj bb bo bs g c:Nat} {vB vS vF:Value} {B:List (List Bool)} {n m:Nat} {s:LpS} {W:World} (h:LpF w A0 c0 l0 bj bb bo bs vB (.slice (some ⟨g,0,none⟩) n c) vS vF B n m s W) (i:Int) (h0:0<=i) (h1:i<n) (a b d:Int):LpF w A0 c0 l0 bj bb bo bs vB (.slice (some ⟨g,0,none⟩) n c) vS vF B n m {s with out:=s.out.set i.toNat ⟨a,b,d⟩} (((W.setCell ⟨g,i.toNat * 3,none⟩ (.int .i64 a)).setCell ⟨g,i.toNat * 3 + 1,none⟩ (.int .i64 b)).setCell ⟨g,i.toNat * 3 + 2,none⟩ (.int .i64 d)):=by
 obtain ⟨g2,c2,e2,gb,gl,cl,hc⟩:=Kd.R_form h.out (by have:=h.lens;omega);cases e2;obtain ⟨ce,hcl,hM,hcc,hfr⟩:=Kd.R_elem h.out z73 i h0 h1;obtain rfl:=k73_openM hM;have HP:=Kd.R_seg h.out i h0 h1 (seg:=[.int .i64 a,.int .i64 b,.int .i64 d]) (j:=0) hcl hcc (show 3<=3 from by decide) (x':=(⟨a,b,d⟩:S73)) (k73_mkM _ _ _ (⟨a,b,d⟩:S73)) (fun _ hk=>hk);have hg:W.grownBy (((W.setCell ⟨g,i.toNat * 3,none⟩ (.int .i64 a)).setCell ⟨g,i.toNat * 3 + 1,none⟩ (.int .i64 b)).setCell ⟨g,i.toNat * 3 + 2,none⟩ (.int .i64 d)) (some g):=HP.2;exact ⟨below_set (below_set (below_set h.below gb) gb) gb,⟨by simp [h.lens.1],h.lens.2.1,h.lens.2.2⟩,boxed_row h.bxj hc (by decide) hg,boxed_row h.bxb hc (by decide) hg,boxed_row h.bxo hc (by decide) hg,boxed_row h.bxs hc (by decide) hg,Kd.S_over' (v:=.slice (some ⟨g,0,none⟩) s.out.length c) h.tb (by intro k hk;exact Kd.R_typed h.out k hk) (by decide) hg,HP.1,Kd.R_over' (v:=.slice (some ⟨g,0,none⟩) s.out.length c) h.st (by intro k hk;exact Kd.R_typed h.out k hk) (by decide) hg,Kd.R_over' (v:=.slice (some ⟨g,0,none⟩) s.out.length c) h.free (by intro k hk;exact Kd.R_typed h.out k hk) (by decide) hg⟩
theorem LpF.cellO {w:World} {A0:Option Addr} {c0:Nat} {l0:List S44} {bj bb bo bs g c:Nat} {vB vS vF:Value} {B:List (List Bool)} {n m:Nat} {s:LpS} {W:World} (h:LpF w A0 c0 l0 bj bb bo bs vB (.slice (some ⟨g,0,none⟩) n c) vS vF B n m s W) (i:Int) (h0:0<=i) (h1:i<n):∃ x0 x1 x2:Value,W.cell? ⟨g,i.toNat * 3,none⟩=some x0/\W.cell? ⟨g,i.toNat * 3 + 1,none⟩=some x1/\W.cell? ⟨g,i.toNat * 3 + 2,none⟩=some x2/\W.frozen? ⟨g,i.toNat * 3,none⟩=false/\W.frozen? ⟨g,i.toNat * 3 + 1,none⟩=false/\W.frozen? ⟨g,i.toNat * 3 + 2,none⟩=false:=by
 obtain ⟨ce,hcl,hM,hcc,hfr⟩:=Kd.R_elem h.out z73 i h0 h1;obtain rfl:=k73_openM hM;exact ⟨_,_,_,hcc 0 _ rfl,hcc 1 _ rfl,hcc 2 _ rfl,hfr 0,hfr 1,hfr 2⟩
theorem LpF.setLeft {w:World} {A0:Option Addr} {c0:Nat} {l0:List S44} {bj bb bo bs:Nat} {vB vO vS vF:Value} {B:List (List Bool)} {n m:Nat} {s:LpS} {W:World} (h:LpF w A0 c0 l0 bj bb bo bs vB vO vS vF B n m s W) (x:Int):LpF w A0 c0 l0 bj bb bo bs vB vO vS vF B n m {s with left:=x} W:=⟨h.below,h.lens,h.bxj,h.bxb,h.bxo,h.bxs,h.tb,h.out,h.st,h.free⟩
theorem lpStep_busy {l0:List S44} {B:List (List Bool)} {order:List Int} {t:Int} {s:LpS} {mm:Int} (h0:0<=mm) (h:rd s.free mm>t):lpStep l0 B order t s mm.toNat=s:=by
 unfold lpStep;rw [if_pos (by rw [show ((mm.toNat:Nat):Int)=mm by omega];exact h)]
theorem lpStep_none {l0:List S44} {B:List (List Bool)} {order:List Int} {t:Int} {s:LpS} {mm:Int} (h0:0<=mm) (h:¬ rd s.free mm>t) (hf:∀ i ∈ order,lpReady l0 B s.out s.st i t=false):lpStep l0 B order t s mm.toNat=s:=by
 unfold lpStep;rw [if_neg (by rw [show ((mm.toNat:Nat):Int)=mm by omega];exact h),List.find?_eq_none.2 (fun i hi=>by rw [hf i hi];simp)]
theorem lpStep_some {l0:List S44} {B:List (List Bool)} {order:List Int} {t:Int} {s:LpS} {mm:Int} (h0:0<=mm) (h:¬ rd s.free mm>t) {q:Nat} {i:Int} (hq:order[q]?=some i) (hf:∀ i ∈ order.take q,lpReady l0 B s.out s.st i t=false) (hi:lpReady l0 B s.out s.st i t=true):lpStep l0 B order t s mm.toNat=⟨s.out.set i.toNat ⟨i,mm,t⟩,s.st.set i.toNat true,s.free.set mm.toNat (wrap64 (t + (rd_T44 l0 i).f0)),wrap64 (s.left - 1)⟩:=by
 have hfind:order.find? (fun i=>lpReady l0 B s.out s.st i t)=some i:=by
  obtain ⟨hlt,hq2⟩:=List.getElem?_eq_some_iff.1 hq;rw [<-List.take_append_drop q order,List.find?_append,List.find?_eq_none.2 (fun x hx=>by rw [hf x hx];simp),List.drop_eq_getElem_cons hlt,hq2,List.find?_cons_of_pos (p:=fun i=>lpReady l0 B s.out s.st i t) hi];rfl
 unfold lpStep;rw [if_neg (by rw [show ((mm.toNat:Nat):Int)=mm by omega];exact h),hfind];simp only [show ((mm.toNat:Nat):Int)=mm by omega]
theorem impl_listPlan.calls (k:Nat) (A0:Option Addr) (c0:Nat) (l0:List (S44)) (a1:Int) (A2:Option Addr) (c2:Nat) (l2:List (S42)) (A3:Option Addr) (c3:Nat) (l3:List Int) (r:List (S73)) (w:World) (hr0:Kd.C k44 w A0 l0.length l0) (hc0:l0.length<=c0) (hr2:Kd.C k42 w A2 l2.length l2) (hc2:l2.length<=c2) (hr3:Kd.C (Kd.int .i64) w A3 l3.length l3) (hc3:l3.length<=c3) (h:impl_listPlan.f k l0 a1 l2 l3=some r) :
  Calls Try.prog 31 #[.slice A0 l0.length c0,.int .i64 a1,.slice A2 l2.length c2,.slice A3 l3.length c3] w fun e w'=>∃ v0_:Value,e=.returned (v0_)/\Kd.R k73 73 w' w.heap.size (fun _=>True) v0_ r/\Below w.heap.size w w':=by
 unfold impl_listPlan.f at h;obtain ⟨B,h1,h2⟩:=Option.bind_eq_some_iff.1 h;clear h
 split at h2
 case isFalse=>cases h2
 case isTrue hg=>
 obtain ⟨m0,rfl⟩:=Int.eq_ofNat_of_zero_le hg.1.1;replace h2:impl_listPlan.l0 l0 B l3 m0 k (lpStart l0 (m0:Int)) 0=some r:=h2;have HR0:=ak_ hr0;have HC0:=ak_ hc0;have HR2:=ak_ hr2;have HC2:=ak_ hc2;have HR3:=ak_ hr3;have HC3:=ak_ hc3;have H1:=ak_ h1;have H:=ak_ h2;have HG:=ak_ hg;have HB:=ak_ (Below.refl w.heap.size w);have z1:decide (0<=(l0.length:Int))=true:=decide_eq_true (by omega);have z2:(0<=(l0.length:Int))=True:=eq_true (by omega);have z3:(0<=(m0:Int))=True:=eq_true hg.1.1;clear hr0 hc0 hr2 hc2 hr3 hc3 h1 h2 hg
 go_enter Try.func31,Try.ntmps31
 go_wp2_with (fail)
 refine (impl_closure.calls k (l0.length:Int) _ _ l2 B _ (Kd.C_below HR2.out zz14) HC2.out H1.out).mono ?_;rintro e w2 ⟨vB0,rfl,ho,hb⟩
 dsimp only
 obtain ⟨AB,cB,evB⟩:=Kd.S_slice ho;subst evB;have BXJ:Aside0 (Boxed w2 w.heap.size 24 (.slice A0 l0.length c0)):=⟨boxed_below (boxed_alloc rfl) hb⟩;have TB:=ak_ (Kd.S_lower ho (below_size (below_alloc HB.out _)));have HB2:=ak_ (below_step (below_alloc HB.out _) hb);clear HB ho hb;have XJ:=(BXJ.out.alloc (.cells #[(.slice AB B.length cB)] 75)).cell
 go_wp2_with (first
  | ((with_reducible refine gate_dst (N:=25) rfl ?_);refine Kd.R_make k73 _ 73 rfl (N:=25) rfl 28 _ _ rfl (l0.length:Int) rfl rfl Try.underlying28 (.agg #[(.int .i64 0),(.int .i64 0),(.int .i64 0)]) 24 info73 rfl (by decide) (by omega) z73 (ok:=fun _=>True) (okp:=fun _=>True) (k73_mkM _ _ _ z73) (fun _ hk=>hk) trivial (by omega) (by have:=HG.out.2.1;omega) (Below.refl _ _) (Nat.le_refl _) ?_;intro vO w10 ho hb hg_ hnew_;clear hg_ hnew_;obtain ⟨AO,cO,eO⟩:=Kd.R_slice ho;rw [show (List.replicate (l0.length:Int).toNat z73).length=l0.length by simp] at eO;subst eO;have YJ:Aside0 (Boxed w10 w.heap.size 24 (.slice A0 l0.length c0)):=⟨boxed_below (Boxed.alloc BXJ.out _) hb⟩;have YB:Aside0 (Boxed w10 w2.heap.size 75 (.slice AB B.length cB)):=⟨boxed_below (boxed_alloc rfl) hb⟩;have n2_:=ak_ (Kd.S_below (Kd.S_alloc TB.out _) hb);have HO:Aside0 (Kd.R k73 73 w10 w.heap.size (fun _=>True) (.slice AO l0.length cO) (List.replicate l0.length z73)):=⟨Kd.R_lower ho (below_size (below_alloc HB2.out _))⟩;have n4_:=ak_ (below_step (below_alloc HB2.out _) hb);clear TB HB2 BXJ XJ ho hb;have TB:=n2_;have HB2:=n4_;clear n2_ n4_;have XJ:=(YJ.out.alloc (.cells #[(.slice AO l0.length cO)] 28)).cell)
  | ((with_reducible refine gate_dst (N:=28) rfl ?_);refine Kd.R_make Kd.bool _ 4 rfl (N:=28) rfl 80 _ _ rfl (l0.length:Int) rfl rfl Try.underlying80 (.bool false) 1 info4 rfl (by decide) (by omega) false (ok:=fun _=>True) (okp:=fun _=>True) rfl (fun _ hk=>hk) trivial (by omega) (by have:=HG.out.2.1;omega) (Below.refl _ _) (Nat.le_refl _) ?_;intro vS w12 ho hb hg_ hnew_;clear hg_ hnew_;obtain ⟨AS,cS,eS⟩:=Kd.R_slice ho;rw [show (List.replicate (l0.length:Int).toNat false).length=l0.length by simp] at eS;subst eS;have YJ2:Aside0 (Boxed w12 w.heap.size 24 (.slice A0 l0.length c0)):=⟨boxed_below (Boxed.alloc YJ.out _) hb⟩;have YB2:Aside0 (Boxed w12 w2.heap.size 75 (.slice AB B.length cB)):=⟨boxed_below (Boxed.alloc YB.out _) hb⟩;have YO2:Aside0 (Boxed w12 w10.heap.size 28 (.slice AO l0.length cO)):=⟨boxed_below (boxed_alloc rfl) hb⟩;have n2_:=ak_ (Kd.S_elder' (Kd.S_alloc TB.out _) (Kd.R_base ho) hb);have n3_:=ak_ (Kd.R_below (Kd.R_alloc HO.out _) hb);have HS:Aside0 (Kd.R Kd.bool 4 w12 w.heap.size (fun _=>True) (.slice AS l0.length cS) (List.replicate l0.length false)):=⟨Kd.R_lower ho (below_size (below_alloc HB2.out _))⟩;have n4_:=ak_ (below_step (below_alloc HB2.out _) hb);clear TB HO HB2 YJ YB XJ ho hb;have TB:=n2_;have HO:=n3_;have HB2:=n4_;clear n2_ n3_ n4_)
  | ((with_reducible refine gate_dst (N:=30) rfl ?_);refine Kd.R_make (Kd.int .i64) _ 3 rfl (N:=30) rfl 34 _ _ rfl (m0:Int) rfl rfl Try.underlying34 (.int .i64 0) 8 info3 rfl (by decide) (by omega) 0 (ok:=fun _=>True) (okp:=fun _=>True) rfl (fun _ hk=>hk) trivial HG.out.1.1 (by have:=HG.out.1;omega) (Below.refl _ _) (Nat.le_refl _) ?_;intro vF w14 ho hb hg_ hnew_;clear hg_ hnew_;obtain ⟨AF,cF,eF⟩:=Kd.R_slice ho;rw [show (List.replicate (m0:Int).toNat (0:Int)).length=m0 by simp] at eF;subst eF;have F:Aside0 (LpF w A0 c0 l0 w.heap.size w2.heap.size w10.heap.size w12.heap.size (.slice AB B.length cB) (.slice AO l0.length cO) (.slice AS l0.length cS) (.slice AF m0 cF) B l0.length m0 (lpStart l0 (m0:Int)) w14):=⟨⟨below_step (below_alloc HB2.out _) hb,⟨by simp [lpStart],by simp [lpStart],by simp [lpStart]⟩,boxed_below (Boxed.alloc YJ2.out _) hb,boxed_below (Boxed.alloc YB2.out _) hb,boxed_below (Boxed.alloc YO2.out _) hb,boxed_below (boxed_alloc rfl) hb,Kd.S_below (Kd.S_alloc TB.out _) hb,Kd.R_below (Kd.R_alloc HO.out _) hb,Kd.R_below (Kd.R_alloc HS.out _) hb,Kd.R_lower ho (below_size (below_alloc HB2.out _))⟩⟩;clear TB HO HS HB2 YJ2 YB2 YO2 ho hb;have XJ:=F.out.bxj.cell))
 obtain ⟨bj,hbj⟩:∃ b_,b_=w.heap.size:=⟨_,rfl⟩;obtain ⟨bb,hbb⟩:∃ b_,b_=w2.heap.size:=⟨_,rfl⟩;obtain ⟨bo,hbo⟩:∃ b_,b_=w10.heap.size:=⟨_,rfl⟩;obtain ⟨bs,hbs⟩:∃ b_,b_=w12.heap.size:=⟨_,rfl⟩;have F1:Aside0 (LpF w A0 c0 l0 bj bb bo bs (.slice AB B.length cB) (.slice AO l0.length cO) (.slice AS l0.length cS) (.slice AF m0 cF) B l0.length m0 (lpStart l0 (m0:Int)) w14):=⟨by rw [hbj,hbb,hbo,hbs];exact F.out⟩;rw [<-hbj] at XJ;rw [<-hbj,<-hbb,<-hbo,<-hbs];clear F hbj hbb hbo hbs
 go_region
 go_wp2
 go_loopg [14,15] k (fun kq v14 v15 w'=>∃ (s:LpS) (t:Int),v14=.int .i64 t/\v15=.int .i64 s.left/\Aside0 (impl_listPlan.l0 l0 B l3 m0 kq s t=some r)/\Aside0 (LpF w A0 c0 l0 bj bb bo bs (.slice AB B.length cB) (.slice AO l0.length cO) (.slice AS l0.length cS) (.slice AF m0 cF) B l0.length m0 s w'))
 case atStart=>exact ⟨lpStart l0 (m0:Int),0,(by rfl),(by rfl),H,⟨F1.out.step zz10⟩⟩
 case round=>
  clear H F1 XJ;obtain ⟨s,t,rfl,rfl,HA,F⟩:=hrel;cases gk with
  | zero=>exact absurd HA.out (by simp [impl_listPlan.l0])
  | succ k1=>
   have H:=HA.out;clear HA;rw [impl_listPlan.l0] at H;replace H:=gN H;rcases H with ⟨cl,H⟩ | ⟨cl,H⟩
   ·obtain rfl:=oi_ H;have cb:=decide_eq_false cl;clear cl H;have XO:=F.out.bxo.cell
    go_wp2
    go_ret
    exact ⟨_,rfl,(F.out.step zz10).out,(F.out.step zz10).below⟩
   have H1:=ak_ H;clear H;have cb:=decide_eq_true cl;clear cl
   go_wp2
   go_loopg [15,40] m0 (fun kq v15 v40 w'=>∃ (s2:LpS) (mm:Int),v15=.int .i64 s2.left/\v40=.int .i64 mm/\Aside0 (0<=mm/\mm.toNat + kq=m0)/\Aside0 (impl_listPlan.l0 l0 B l3 m0 k1 (lpRun l0 B l3 t kq mm.toNat s2) (wrap64 (t + 1))=some r)/\Aside0 (LpF w A0 c0 l0 bj bb bo bs (.slice AB B.length cB) (.slice AO l0.length cO) (.slice AS l0.length cS) (.slice AF m0 cF) B l0.length m0 s2 w'))
   case atStart=>exact ⟨s,0,(by rfl),(by rfl),⟨by simp⟩,H1,⟨F.out.step zz10⟩⟩
   case round=>
    clear H1 F cb;obtain ⟨s2,mm,rfl,rfl,HK1,H2,F⟩:=hrel;by_cases c:mm<(m0:Int);rotate_left
    ·have cb:=decide_eq_false c;have HS:Aside0 (impl_listPlan.l0 l0 B l3 m0 k1 s2 (wrap64 (t + 1))=some r):=⟨by have h_:=H2.out;rw [show gk=0 by have:=HK1.out;omega] at h_;exact h_⟩;clear c H2
     go_wp2
     go_roundg k1
     case measure=>omega
     case rel=>exact ⟨s2,wrap64 (t + 1),(by rfl),(by rfl),HS,⟨F.out.step zz10⟩⟩
    have cb:=decide_eq_true c;obtain ⟨k2,hk2⟩:∃ k2,gk=k2 + 1:=⟨gk - 1,by have:=HK1.out;omega⟩;subst hk2;have HS:Aside0 (impl_listPlan.l0 l0 B l3 m0 k1 (lpRun l0 B l3 t k2 (mm.toNat + 1) (lpStep l0 B l3 t s2 mm.toNat)) (wrap64 (t + 1))=some r):=⟨H2.out⟩;have HW:Aside0 (wrap64 (mm + 1)=mm + 1/\(mm + 1).toNat=mm.toNat + 1):=⟨by unfold wrap64;have:=HK1.out;have:=HG.out.1;omega,by have:=HK1.out;omega⟩;clear H2;have p1:0<=mm:=HK1.out.1;have HMM:Aside0 (0<=mm/\mm<(m0:Int)):=⟨p1,c⟩;obtain ⟨gF,cF2,eF,_⟩:=Kd.R_form F.out.free (by rw [F.out.lens.2.2];omega);injection eF with eA en_ ec_;clear en_ ec_
    subst eA;obtain ⟨hxF,hfF⟩:=Kd.R_celln 0 F.out.free mm p1 c;obtain ⟨fv,hfv⟩:∃ x_:Int,rdOf 0 s2.free mm=x_:=⟨_,rfl⟩;rw [hfv] at hxF;have HFV:Aside0 (rd s2.free mm=fv):=⟨hfv⟩;clear hfv c hfF;have p1:=eq_true p1;have q1:=eq_true HMM.out.2;by_cases cf:t<fv
    ·have cfb:=decide_eq_true cf;have HST:Aside0 (lpStep l0 B l3 t s2 mm.toNat=s2):=⟨lpStep_busy HMM.out.1 (by rw [HFV.out];exact cf)⟩;clear cf
     go_wp2
     go_roundg k2
     case measure=>omega
     case rel=>exact ⟨s2,mm + 1,(by rfl),(by (simp [HW.out.1];done)),⟨by have:=HK1.out;have:=HW.out.2;omega⟩,⟨by rw [HW.out.2,<-HST.out];rw [HST.out];have h_:=HS.out;rw [HST.out] at h_;exact h_⟩,⟨F.out.step zz10⟩⟩
    have cfb:=decide_eq_false cf;have HNF:Aside0 (¬ rd s2.free mm>t):=⟨by rw [HFV.out];exact cf⟩;clear cf
    go_wp2
    go_loopg [15,51] l3.length (fun kq v15 v51 w'=>∃ (q:Int),v15=.int .i64 s2.left/\v51=.int .i64 q/\Aside0 (0<=q/\q.toNat + kq=l3.length)/\Aside0 (∀ i ∈ l3.take q.toNat,lpReady l0 B s2.out s2.st i t=false)/\Aside0 (LpF w A0 c0 l0 bj bb bo bs (.slice AB B.length cB) (.slice AO l0.length cO) (.slice AS l0.length cS) (.slice (some ⟨gF,0,none⟩) m0 cF) B l0.length m0 s2 w'))
    case atStart=>exact ⟨0,(by rfl),(by rfl),⟨by simp⟩,⟨by simp⟩,⟨F.out.step zz10⟩⟩
    case round=>
     clear F hxF;obtain ⟨q,rfl,rfl,HK2,HNO,F⟩:=hrel;by_cases c:q<(l3.length:Int);rotate_left
     ·have cb2:=decide_eq_false c;have HST:Aside0 (lpStep l0 B l3 t s2 mm.toNat=s2):=⟨lpStep_none HMM.out.1 (by have:=HNF.out;omega) (fun i_ hi_=>HNO.out i_ (by rw [List.take_of_length_le (by have:=HK2.out;omega)];exact hi_))⟩;clear c HNO
      go_wp2
      go_roundg k2
      case measure=>omega
      case rel=>exact ⟨s2,mm + 1,(by rfl),(by (simp [HW.out.1];done)),⟨by have:=HK1.out;have:=HW.out.2;omega⟩,⟨by rw [HW.out.2];have h_:=HS.out;rw [HST.out] at h_;exact h_⟩,⟨F.out.step zz10⟩⟩
     have cb2:=decide_eq_true c;have p2:0<=q:=HK2.out.1;obtain ⟨ad3,e3,hx3⟩:=Kd.at_int (Kd.C_below HR3.out F.out.below) q p2 c;subst e3;obtain ⟨i,hi⟩:∃ x_:Int,rd l3 q=x_:=⟨_,rfl⟩;rw [hi] at hx3;have HQ:Aside0 (l3[q.toNat]?=some i):=⟨by rw [List.getElem?_eq_getElem (by omega),<-rd_int p2 c,hi]⟩;have HI:Aside0 (0<=i/\i<(l0.length:Int)):=⟨HG.out.2.2.2.2 i (List.mem_of_getElem? HQ.out)⟩;have HW2:Aside0 (wrap64 (q + 1)=q + 1/\(q + 1).toNat=q.toNat + 1):=⟨by unfold wrap64;have:=HK2.out;have:=HG.out.2.2.2.1;omega,by have:=HK2.out;omega⟩;have HQL:Aside0 (q.toNat<l3.length):=⟨by omega⟩;replace p2:=eq_true p2;have q2:=eq_true c;clear c hi
     go_wp2_with (fail)
     refine (impl_listPlan1.calls bs bj bb bo A0 c0 l0 (.slice AB B.length cB) (.slice AO l0.length cO) (.slice AS l0.length cS) B s2.out s2.st i t _ _ _ _ _ _ _ HC0.out (Kd.C_below HR0.out (F.out.step zz10).below) (F.out.step zz10).tb (F.out.step zz10).out (F.out.step zz10).st (F.out.step zz10).bxs (F.out.step zz10).bxj (F.out.step zz10).bxb (F.out.step zz10).bxo HI.out ⟨HG.out.2.2.1.1,HG.out.2.2.1.2,F.out.lens.1,F.out.lens.2.1⟩ HG.out.2.1).mono ?_;rintro e w4 ⟨rfl,hb⟩
     dsimp only
     have F4:Aside0 (LpF w A0 c0 l0 bj bb bo bs (.slice AB B.length cB) (.slice AO l0.length cO) (.slice AS l0.length cS) (.slice (some ⟨gF,0,none⟩) m0 cF) B l0.length m0 s2 w4):=⟨(F.out.step zz10).step hb⟩;clear F hb hx3;obtain ⟨rdy,hrdy⟩:∃ b_:Bool,lpReady l0 B s2.out s2.st i t=b_:=⟨_,rfl⟩;have HRD:=ak_ hrdy;rw [hrdy];clear hrdy;cases rdy with
     | false=>
      go_wp2
      go_roundg (l3.length - (q.toNat + 1))
      case measure=>have:=HK2.out;have:=HQL.out;omega
      case rel=>
       refine ⟨q + 1,(by rfl),(by (simp [HW2.out.1];done)),⟨by have:=HK2.out;have:=HW2.out.2;have:=HQL.out;omega⟩,⟨fun i_ hi_=>?_⟩,⟨F4.out.step zz10⟩⟩;rw [HW2.out.2,List.take_add_one,HQ.out,Option.toList_some,List.mem_append,List.mem_singleton] at hi_;rcases hi_ with h_|rfl
       ·exact HNO.out _ h_
       ·exact HRD.out
     | true=>
      have HST:Aside0 (lpStep l0 B l3 t s2 mm.toNat=⟨s2.out.set i.toNat ⟨i,mm,t⟩,s2.st.set i.toNat true,s2.free.set mm.toNat (wrap64 (t + (rd_T44 l0 i).f0)),wrap64 (s2.left - 1)⟩):=⟨lpStep_some HMM.out.1 (by have:=HNF.out;omega) HQ.out HNO.out HRD.out⟩;clear HNO HRD;obtain ⟨gO,cO2,eO,_⟩:=Kd.R_form F4.out.out (by rw [F4.out.lens.1];have:=HI.out;omega);injection eO with eA en_ ec_;clear en_ ec_
      subst eA;obtain ⟨gS,cS2,eS,_⟩:=Kd.R_form F4.out.st (by rw [F4.out.lens.2.1];have:=HI.out;omega);injection eS with eA en_ ec_;clear en_ ec_
      subst eA;obtain ⟨x0,x1,x2,hx0,hx1,hx2,hf0,hf1,hf2⟩:=F4.out.cellO i HI.out.1 HI.out.2;have XO:=F4.out.bxo.cell;have p3:=eq_true HI.out.1;have q3:=eq_true HI.out.2
      go_wp2_with (first
       | ((with_reducible refine gate_store (t:=73) (p:=65) rfl ?_);refine store_event (t:=73) (p:=65) (v:=?vo_w5) (w1:=(((w4.setCell ⟨gO,i.toNat * 3,none⟩ (.int .i64 i)).setCell ⟨gO,i.toNat * 3 + 1,none⟩ (.int .i64 mm)).setCell ⟨gO,i.toNat * 3 + 2,none⟩ (.int .i64 t))) ?hg ?ho ?hn ?hr ?_;(case ho=>rfl);(case hg=>rfl);(case hn=>rfl);(case hr=>(go_simp;done));intro w5 hw;have F5:=ak_ (show LpF w A0 c0 l0 bj bb bo bs (.slice AB B.length cB) (.slice (some ⟨gO,0,none⟩) l0.length cO) (.slice (some ⟨gS,0,none⟩) l0.length cS) (.slice (some ⟨gF,0,none⟩) m0 cF) B l0.length m0 {s2 with out:=s2.out.set i.toNat ⟨i,mm,t⟩} w5 from by rw [hw];exact F4.out.putO i HI.out.1 HI.out.2 i mm t);clear hw F4 hx0 hx1 hx2 hf0 hf1 hf2 XO;have XS:=F5.out.bxs.cell;obtain ⟨hs,hsf⟩:=Kd.R_celln false F5.out.st i HI.out.1 HI.out.2)
       | ((with_reducible refine gate_store (t:=4) (p:=68) rfl ?_);refine store_event (t:=4) (p:=68) (v:=?vo_w6) (w1:=w5.setCell ⟨gS,i.toNat,none⟩ (.bool true)) ?hg ?ho ?hn ?hr ?_;(case ho=>rfl);(case hg=>rfl);(case hn=>rfl);(case hr=>(go_simp;done));intro w6 hw;have F6:=ak_ (show LpF w A0 c0 l0 bj bb bo bs (.slice AB B.length cB) (.slice (some ⟨gO,0,none⟩) l0.length cO) (.slice (some ⟨gS,0,none⟩) l0.length cS) (.slice (some ⟨gF,0,none⟩) m0 cF) B l0.length m0 {s2 with out:=s2.out.set i.toNat ⟨i,mm,t⟩,st:=s2.st.set i.toNat true} w6 from by rw [hw];exact F5.out.putS (by have:=HI.out;omega) i);clear hw F5 XS hs hsf;have XJ:=F6.out.bxj.cell;obtain ⟨ad6,e6,hy0,hy1,hy2,hy3⟩:=at_T44 (Kd.C_below HR0.out F6.out.below) i HI.out.1 HI.out.2;subst e6;obtain ⟨hs,hsf⟩:=Kd.R_celln 0 F6.out.free mm HMM.out.1 HMM.out.2)
       | ((with_reducible refine gate_store (t:=3) (p:=78) rfl ?_);refine store_event (t:=3) (p:=78) (v:=?vo_w7) (w1:=w6.setCell ⟨gF,mm.toNat,none⟩ (.int .i64 (wrap64 (t + (rd_T44 l0 i).f0)))) ?hg ?ho ?hn ?hr ?_;(case ho=>rfl);(case hg=>rfl);(case hn=>rfl);(case hr=>(go_simp;done));intro w7 hw;have F7:=ak_ (show LpF w (some ad6) c0 l0 bj bb bo bs (.slice AB B.length cB) (.slice (some ⟨gO,0,none⟩) l0.length cO) (.slice (some ⟨gS,0,none⟩) l0.length cS) (.slice (some ⟨gF,0,none⟩) m0 cF) B l0.length m0 {s2 with out:=s2.out.set i.toNat ⟨i,mm,t⟩,st:=s2.st.set i.toNat true,free:=s2.free.set mm.toNat (wrap64 (t + (rd_T44 l0 i).f0))} w7 from by rw [hw];exact F6.out.putF (by have:=HMM.out;omega) mm _);clear hw F6 XJ hy0 hy1 hy2 hy3 hs hsf))
      go_roundg k2
      case measure=>omega
      case rel=>exact ⟨⟨s2.out.set i.toNat ⟨i,mm,t⟩,s2.st.set i.toNat true,s2.free.set mm.toNat (wrap64 (t + (rd_T44 l0 i).f0)),wrap64 (s2.left - 1)⟩,mm + 1,(by rfl),(by (simp [HW.out.1];done)),⟨by have:=HK1.out;have:=HW.out.2;omega⟩,⟨by rw [HW.out.2];have h_:=HS.out;rw [HST.out] at h_;exact h_⟩,⟨(F7.out.setLeft (wrap64 (s2.left - 1))).step zz10⟩⟩
