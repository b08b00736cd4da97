-- Written by a program of this session (the kit's print, widened). Proved here: what each function answers, for the arguments that its contract names.
import Derived.Test.YtplbabjigikgjaaXFnExactSupportedPointsx0
import Derived.Test.YtplbabjigikgjaaXFnExactSupportedPointsx1
import Derived.Test.YtplbabjigikgjaaXFnExactSupportedPointsx10
import Derived.Test.YtplbabjigikgjaaXFnExactSupportedPointsx11
import Derived.Test.YtplbabjigikgjaaXFnExactSupportedPointsx12
namespace Go.Proofs.Ytplbabjigikgjaa.XFnExactSupportedPoints
open Go.RowKit Go.Proofs.YtplbabjigikgjaaW.PrintWords Go.Proofs.YtplbabjigikgjaaW.PrintLast Go.Proofs.YtplbabjigikgjaaW.PrintMore
attribute [local go_sem] max2_int min2_int max_two min_two max_three min_three max_four min_four   -- for this text's walks alone
attribute [local go_sem] idxA_45_0 idxA_45_1 fldS_94_0 fldS_94_1 fldS_94_2 fldS_125_0 fldS_125_1 fldS_125_2
set_option linter.unusedVariables false
set_option linter.unusedSimpArgs false

/-! ### impl_frontOf: function 82, by hand -/
/-! ### impl_frontOf, by hand -/
theorem run_copy_row2 {P:Program} (w:World) (dT sT ty elem:TypeId) (g o dLen dCap:Nat) (a:Addr) (sLen sCap z:Nat) (cur:Array Value) (t:TypeId) (cs:List Value)
  (hu:P.underlying dT=some (.slice elem)) (hs:(P.info? elem).map (·.size)=some z)
  (hg:w.heap[g]?=some (.cells cur t (0,0))) (hn:cs.length=Nat.min sLen dLen * z)
  (hsrc:∀ j v,cs[j]?=some v→w.cell? (a.add j)=some v) (hfit:o + cs.length≤cur.size) (h1:∀ v ∈ cs,v.oneCell'=true) :
  (Builtin.copy_ #[dT,sT] ty #[.slice (some ⟨g,o,none⟩) dLen dCap,.slice (some a) sLen sCap]).run P w=.ok (goInt (Nat.min sLen dLen)) (w.setRow g (cur.toList.take o++cs++cur.toList.drop (o + cs.length)).toArray):=by
 have hl:=run_loadCells_list (P:=P) w a cs hsrc
 have hst:=run_storeCells_at P g o t cs 0 cur w hg (by simpa using hfit) h1
 cases hq:P.info? elem with
 | none=>simp [hq] at hs
 | some i=>
  have hi:i.size=z:=by simpa [hq] using hs
  simp [Builtin.copy_,run_underlying hu,Builtin.lenOf,Builtin.firstCells,sizeOf,typeInfo,hq,hi,←hn,hl,hst]
theorem step_copy_splice2 {P:Program} {ops:Array Oper} {o:Oper} {a:Act} {w:World} {K:Act→World→Prop} {Q:Exit→Act→World→Prop} {E:Prop} (hgd:o.guard=none) (d s:Operand) (dT sT:TypeId)
  (ho:o.op=.call {callee:=.builtin .copy,args:=#[d,s],argTypes:=#[dT,sT]}) (elem:TypeId) (hu:P.underlying dT=some (.slice elem)) (z:Nat) (hsz:(P.info? elem).map (·.size)=some z)
  (g1 o1 dLen dCap:Nat) (ad:Addr) (sLen sCap:Nat) (hd:a.eval d=.slice (some ⟨g1,o1,none⟩) dLen dCap) (hs:a.eval s=.slice (some ad) sLen sCap)
  (g off:Nat) (cur:List Value) (t:TypeId) (hg:w.heap[g]?=some (.cells cur.toArray t (0,0))) (cs:List Value) (hn:cs.length=Nat.min sLen dLen * z)
  (hpos:g1=g∧(0<cs.length→o1=off∧∀ j v,cs[j]?=some v→w.cell? (ad.add j)=some v))
  (hfit:off + cs.length≤cur.length) (hfit0:o1≤cur.length) (h1:∀ v ∈ cs,v.oneCell'=true) (B:Nat) (w0:World) (hb:Below B w0 w) (hBg:B≤g)
  (h:∀ w',RowKit.Hid (w'.heap[g]?=some (.cells (splice cur off cs).toArray t (0,0)))→Below B w0 w'→K (a.put o.dst (goInt (Nat.min sLen dLen))) w') :
  if Region.wanted o (yielded ops a.tmps)=true then Oper.wp P o a w K Q else E:=by
 have hw:Region.wanted o (yielded ops a.tmps)=true:=by simp [Region.wanted,hgd]
 rw [if_pos hw]
 obtain ⟨rfl,hp2⟩:=hpos
 by_cases h0:cs.length=0
 ·obtain rfl:cs=[]:=List.eq_nil_of_length_eq_zero h0
  have hrun:=run_copy_row2 (P:=P) w dT sT o.type elem g1 o1 dLen dCap ad sLen sCap z cur.toArray t [] hu hsz hg hn (by simp) (by simpa using hfit0) (by simp)
  have hself:w.setRow g1 (cur.toArray.toList.take o1++[]++cur.toArray.toList.drop (o1 + ([]:List Value).length)).toArray=w:=by
   have:=setRow_self w g1 cur.toArray t (0,0) hg
   simpa using this
  rw [hself] at hrun
  unfold Oper.wp
  simp [execOp,ho,resolve,invoke,builtin,hd,hs,hrun,Result.andThen]
  exact h w (show _=_ by simpa [splice] using hg) hb
 ·obtain ⟨rfl,hsrc⟩:=hp2 (by omega)
  have hrun:=run_copy_row2 (P:=P) w dT sT o.type elem g1 o1 dLen dCap ad sLen sCap z cur.toArray t cs hu hsz hg hn hsrc (by simpa using hfit) h1
  unfold Oper.wp
  simp [execOp,ho,resolve,invoke,builtin,hd,hs,hrun,Result.andThen]
  exact h _ (show _=_ by simpa [splice] using setRow_heap w g1 _ _ t _ hg) (below_setRow hb hBg _)
def fl2:List S45→List Value
 | []=>[]
 | q::l=>.int .i64 q.f0::.int .i64 q.f1::fl2 l
theorem fl2_len:∀ l,(fl2 l).length=l.length * 2
 | []=>rfl
 | q::l=>by simp only [fl2,List.length_cons,fl2_len l];omega
theorem fl2_append:∀ a b,fl2 (a++b)=fl2 a++fl2 b
 | [],_=>rfl
 | q::a,b=>by simp only [List.cons_append,fl2,fl2_append a b]
theorem fl2_take:∀ (n:Nat) (l:List S45),fl2 (l.take n)=(fl2 l).take (n * 2)
 | 0,_=>by simp [fl2]
 | n + 1,[]=>by simp [fl2]
 | n + 1,q::l=>by rw [List.take_succ_cons,fl2,fl2,fl2_take n l,show (n + 1) * 2=n * 2 + 1 + 1 by omega,List.take_succ_cons,List.take_succ_cons]
theorem fl2_drop:∀ (n:Nat) (l:List S45),fl2 (l.drop n)=(fl2 l).drop (n * 2)
 | 0,_=>by simp
 | n + 1,[]=>by simp [fl2]
 | n + 1,q::l=>by rw [List.drop_succ_cons,fl2,fl2_drop n l,show (n + 1) * 2=n * 2 + 1 + 1 by omega,List.drop_succ_cons,List.drop_succ_cons]
theorem fl2_seg:∀ (l:List S45) (j:Nat) (p:S45),l[j]?=some p→((fl2 l).drop (j * 2)).take 2=[.int .i64 p.f0,.int .i64 p.f1]
 | [],j,p,h=>by simp at h
 | q::l,0,p,h=>by
  obtain rfl:q=p:=by simpa using h
  simp [fl2]
 | q::l,j + 1,p,h=>by
  rw [fl2,show (j + 1) * 2=j * 2 + 1 + 1 by omega,List.drop_succ_cons,List.drop_succ_cons]
  exact fl2_seg l j p (by simpa using h)
theorem fl2_one:∀ (l:List S45),∀ v ∈ fl2 l,v.oneCell'=true
 | [],v,h=>by simp [fl2] at h
 | q::l,v,h=>by
  rcases List.mem_cons.1 h with rfl|h
  ·rfl
  ·rcases List.mem_cons.1 h with rfl|h
   ·rfl
   ·exact fl2_one l v h
theorem fl2_ext:∀ (xs:List S45) (cs:List Value),cs.length=xs.length * 2→(∀ j p,xs[j]?=some p→(cs.drop (j * 2)).take 2=[.int .i64 p.f0,.int .i64 p.f1])→cs=fl2 xs
 | [],cs,h,_=>by obtain rfl:=List.eq_nil_of_length_eq_zero (by simpa using h);rfl
 | q::xs,cs,h,hs=>by
  have h0:=hs 0 q rfl
  match cs,h with
  | [],h=>simp at h
  | [_],h=>simp at h;omega
  | a::b::cs,h=>
   have e:=h0
   simp at e
   rw [fl2,e.1,e.2,←fl2_ext xs cs (by simp at h;omega) (fun j p hj=>by
    have:=hs (j + 1) p (by simpa using hj)
    rwa [show (j + 1) * 2=j * 2 + 1 + 1 by omega,List.drop_succ_cons,List.drop_succ_cons] at this)]
theorem own2_of_R {w:World} {base:Nat} {ok:Nat→Prop} {v:Value} {xs:List S45} (h:Kd.R k45 45 w base ok v xs):w.ownsRow base 45 2 v xs.length (fl2 xs):=by
 obtain ⟨_,inner,ho,hr⟩:=h
 have:inner=fl2 xs:=fl2_ext xs inner hr.1 (fun j p hj=>k45_openM (hr.2 j p hj))
 rw [←this];exact ho
theorem R_of_own2 {w:World} {base:Nat} {ok:Nat→Prop} {v:Value} {xs:List S45} (ho:w.ownsRow base 45 2 v xs.length (fl2 xs)) (hok:∀ k,v.ownBlock=some k→ok k):Kd.R k45 45 w base ok v xs:=
 ⟨hok,_,ho,fl2_len xs,fun j p hj=>by
  have e:((fl2 xs).drop (j * (k45).sz)).take (k45).sz=[.int .i64 p.f0,.int .i64 p.f1]:=fl2_seg xs j p hj
  rw [e];exact k45_mkM _ _ _ p⟩
theorem fl2_splice (xs ys:List S45) (off:Nat):fl2 (splice xs off ys)=splice (fl2 xs) (off * 2) (fl2 ys):=by
 unfold splice
 rw [fl2_append,fl2_append,fl2_take,fl2_drop,fl2_len,show (off + ys.length) * 2=off * 2 + ys.length * 2 by omega]
theorem R_splice2 {base g n cap off:Nat} {ok:Nat→Prop} {W W':World} {xs ys:List S45} {cur:Array Value} (h:Kd.R k45 45 W base ok (.slice (some ⟨g,0,none⟩) n cap) xs) (hg:W.heap[g]?=some (.cells cur 45 (0,0))) (hfit:off + ys.length≤xs.length)
  (hg':W'.heap[g]?=some (.cells (splice cur.toList (off * 2) (fl2 ys)).toArray 45 (0,0))):Kd.R k45 45 W' base ok (.slice (some ⟨g,0,none⟩) n cap) (splice xs off ys):=by
 have hok:=h.1
 obtain ⟨rfl,_⟩:=Kd.R_reads' h
 obtain ⟨hl,hv⟩:=own2_of_R h
 rcases hv with ⟨hv,_⟩ | ⟨g2,cap2,cur2,hv,hb,hc,hn,hm,hs,ht⟩
 ·cases hv
 ·injection hv with ha hb2 hc2
  injection ha with ha
  injection ha with ha
  subst ha
  subst hc2
  rw [hg] at hc
  injection hc with hc
  injection hc with hc
  subst hc
  have hL:(splice xs off ys).length=xs.length:=length_splice xs off ys hfit
  have hcl:cur.toList.length=cap * 2:=by simpa using hs
  have hl2:=fl2_len ys
  have hfit2:off * 2 + (fl2 ys).length≤cur.toList.length:=by omega
  refine R_of_own2 ?_ hok
  rw [hL]
  refine ⟨by rw [fl2_len,hL],.inr ⟨g,cap,_,rfl,hb,hg',hn,hm,?_,?_⟩⟩
  ·simp only [List.size_toArray];rw [length_splice _ _ _ hfit2,hcl]
  ·rw [fl2_splice,←ht]
   have l1:(cur.toList.take (off * 2)).length=off * 2:=by simp;omega
   simp only [splice,List.toList_toArray]
   rw [List.take_append,l1,List.take_append,hl2,List.take_of_length_le (l:=cur.toList.take (off * 2)) (by omega),List.take_of_length_le (l:=fl2 ys) (by omega),List.take_take,Nat.min_eq_left (by omega),List.drop_take,show xs.length * 2 - off * 2 - ys.length * 2=xs.length * 2 - (off * 2 + ys.length * 2) by omega]
theorem sb_setG {α:Type} {x5:List α} {k:Int} {x z:α} (h0:0≤k) (h1:k≤x5.length):(splice (x5++[z]) (k + 1).toNat (x5.drop k.toNat)).set k.toNat x=x5.take k.toNat++x::x5.drop k.toNat:=by
 obtain ⟨n,rfl⟩:=Int.eq_ofNat_of_zero_le h0
 have hn:n≤x5.length:=by omega
 rw [show ((n:Int) + 1).toNat=n + 1 by omega,Int.toNat_natCast]
 unfold splice
 apply List.ext_getElem?
 intro m
 rw [List.getElem?_set]
 rcases Nat.lt_trichotomy m n with h|h|h
 ·rw [if_neg (by omega),List.getElem?_append_left (by simp;omega),List.getElem?_append_left (by simp;omega),List.getElem?_take,List.getElem?_take,if_pos (by omega),if_pos h,List.getElem?_append_left (by omega)]
 ·subst h
  rw [if_pos rfl,if_pos (by simp;omega),List.getElem?_append_right (by simp;omega),show m - (x5.take m).length=0 by simp;omega]
  rfl
 ·rw [if_neg (by omega),List.getElem?_append_right (l₁:=x5.take n) (by simp;omega),show m - (x5.take n).length=(m - n - 1) + 1 by simp;omega,List.getElem?_cons_succ,List.getElem?_append_right (by simp;omega),show m - (List.take (n + 1) (x5++[z])).length=m - n - 1 by simp;omega]
  by_cases h2:m - n - 1<(x5.drop n).length
  ·rw [List.getElem?_append_left h2]
  ·have h3:=h2;simp at h3;rw [List.getElem?_append_right (by omega),List.drop_of_length_le (by simp;omega),List.getElem?_eq_none (l:=x5.drop n) (by omega)];simp
theorem cells2 {base g n cap:Nat} {ok:Nat→Prop} {W:World} {xs:List S45} (h:Kd.R k45 45 W base ok (.slice (some ⟨g,0,none⟩) n cap) xs) {j:Nat} {v:Value} (hj:(fl2 xs)[j]?=some v):W.cell? ⟨g,j,none⟩=some v:=by
 obtain ⟨hl,hv⟩:=own2_of_R h
 rcases hv with ⟨hv,_⟩ | ⟨g2,cap2,cur2,hv,hb,hc,hn,hm,hs,ht⟩
 ·cases hv
 ·injection hv with ha _ hc2
  injection ha with ha
  injection ha with ha
  subst ha
  have hlt:=(List.getElem?_eq_some_iff.1 hj).1
  rw [←ht,List.getElem?_take] at hj
  split at hj
  ·simp [World.cell?,hc,←Array.getElem?_toList,hj]
  ·cases hj
/-- Points: what is at most another one in both; what stays; where one goes. -/
def frLe (q p:S45):Bool:=decide (q.f0≤p.f0) && decide (q.f1≤p.f1)
def frPos (p:S45) (l:List S45):Nat→Nat
 | 0=>0
 | k + 1=>if (rd_T45 l (k:Int)).f0>p.f0 then frPos p l k else k + 1
def frIns (p:S45) (l:List S45):List S45:=l.take (frPos p l l.length)++p::l.drop (frPos p l l.length)
def frPut (p:S45) (l:List S45):List S45:=if l.any (fun q=>frLe q p)=true then l else frIns p (l.filter fun q=> !frLe p q)
theorem dom_eq (a b c d:Int):impl_dominates.f a b c d=some (!(a == c && b == d) && (decide (a≤c) && decide (b≤d))):=by
 unfold impl_dominates.f
 by_cases h1:a=c
 ·by_cases h2:b=d
  ·simp [h1,h2]
  ·by_cases h4:b≤d
   ·simp [h1,h2,h4]
   ·simp [h1,h2,h4]
 ·by_cases h3:a≤c
  ·simp [h1,h3]
  ·simp [h1,h3]
theorem dom_ne {a b c d:Int} (h:¬ (a=c∧b=d)):impl_dominates.f a b c d=some (decide (a≤c) && decide (b≤d)):=by
 rw [dom_eq]
 have e:(a == c && b == d)=false:=by
  by_cases h1:a=c
  ·have h2:b≠d:=fun e=>h ⟨h1,e⟩
   simp [h2]
  ·simp [h1]
 rw [e];simp
theorem cut_addr (g j c:Nat):(if c=j then some (⟨g,0,none⟩:Addr) else (some (⟨g,0,none⟩:Addr)).map (·.add (j * 2)))=some ⟨g,if c=j then 0 else j * 2,none⟩:=by
 split
 ·rfl
 ·simp [Addr.add];intro h;omega
theorem any_at {l:List S45} {f:S45→Bool} {i:Nat} {q:S45} (h:l[i]?=some q) (hf:f q=true):l.any f=true:=List.any_eq_true.2 ⟨q,List.mem_of_getElem? h,hf⟩
theorem fr_pos {W:World} {g c base:Nat} {ok:Nat→Prop} {nx:List S45} {p:S45} (h:Kd.R k45 45 W base ok (.slice (some ⟨g,0,none⟩) (nx++[p]).length c) (nx++[p])) {kk q:Int} (hk:0≤kk) (hk2:kk≤nx.length) (hq:q=kk + 1) (hc:nx.length + 1≤c) {cs:List Value} (hcs:cs=fl2 (nx.drop kk.toNat)) {oA oB:Nat} (hA:oA=if c=q.toNat then 0 else q.toNat * 2) (hB:oB=if c=kk.toNat then 0 else kk.toNat * 2) :
  0<cs.length→oA=q.toNat * 2∧∀ j v,cs[j]?=some v→W.cell? ((⟨g,oB,none⟩:Addr).add j)=some v:=by
 intro hpos
 have hl:cs.length=(nx.length - kk.toNat) * 2:=by rw [hcs,fl2_len,List.length_drop]
 refine ⟨by rw [hA,if_neg (by omega)],fun j v hj=>?_⟩
 have e1:((⟨g,oB,none⟩:Addr).add j)=⟨g,kk.toNat * 2 + j,none⟩:=by
  rw [hB,if_neg (by omega)]
  unfold Addr.add
  generalize kk.toNat * 2=x
  cases x <;> cases j <;> simp
 rw [e1]
 refine cells2 h ?_
 have hj2:j<cs.length:=(List.getElem?_eq_some_iff.1 hj).1
 rw [fl2_append,List.getElem?_append_left (by rw [fl2_len];omega)]
 rw [hcs,fl2_drop,List.getElem?_drop] at hj
 exact hj
attribute [local go_sem] eqA45
attribute [local go_sem] idxA_45_0 idxA_45_1
set_option maxHeartbeats 16000000 in
set_option maxRecDepth 100000 in
theorem impl_frontOf1.calls (k:Nat) (bj bf bg bo:Nat) (A0:Option Addr) (c0:Nat) (l0:List (S47)) (a1 a2:Int) (A:Option Addr) (c:Nat) (l:List Int) (vo:Value) (front:List S45) (bF:Nat) (okF:Nat→Prop) (p1 p2:Int) (W:World) (hc0:l0.length≤c0) (hc:l.length≤c)
  (hr0:Kd.C k47 W A0 l0.length l0) (hr:Kd.C (Kd.int .i64) W A l.length l)
  (xj:Boxed W bj 27 (.slice A0 l0.length c0)) (xf:Boxed W bf 3 (.int .i64 a1)) (xg:Boxed W bg 3 (.int .i64 a2)) (xo:Boxed W bo 36 vo) (ho:Kd.R k45 45 W bF okF vo front) (hF:front.length≤1048576)
  (h:impl_pointOf.f k l0 l a1 a2=some (p1,p2)) :
  Calls Try.prog 126 #[.slice A l.length c,.pointer (some ⟨bj,0,none⟩),.pointer (some ⟨bf,0,none⟩),.pointer (some ⟨bg,0,none⟩),.pointer (some ⟨bo,0,none⟩)] W fun e W'=>e=.returned (.tuple #[])∧∃ W1,Below W.heap.size W W1∧(front.any (fun q=>frLe q ⟨p1,p2⟩)=true→W'=W1)∧(¬ front.any (fun q=>frLe q ⟨p1,p2⟩)=true→∃ v,Kd.R k45 45 W1 W.heap.size (fun _=>True) v (frPut ⟨p1,p2⟩ front)∧W'=W1.setCell ⟨bo,0,none⟩ v):=by
 obtain ⟨Af,cf,rfl⟩:=Kd.R_slice ho
 have CF:=Aside0.mk (Kd.R_reads' ho).2.2
 have HR0:=Aside0.mk hr0
 have HR:=Aside0.mk hr
 have H:=Aside0.mk h
 have HF:=Aside0.mk hF
 have XJ:=xj.cell
 have XF:=xf.cell
 have XG:=xg.cell
 have BO:=Aside0.mk xo
 clear hr0 hr h xj xf xg xo ho hF
 go_enter Try.func126,Try.ntmps126
 go_wp2_with (fail)
 refine (impl_pointOf.calls k _ _ l0 _ _ l a1 a2 p1 p2 _ HR0.out hc0 HR.out hc H.out).mono ?_
 rintro e w2 ⟨rfl,hb⟩
 dsimp only
 clear XJ XF XG H
 obtain ⟨w3,hw3⟩:∃ w3,w3=w2.alloc (Obj.cells #[Value.int .i64 p1,Value.int .i64 p2] 45):=⟨_,rfl⟩
 have hb3:Below W.heap.size W w3:=by rw [hw3];exact below_alloc hb _
 have BP:Aside0 (w3.heap[w2.heap.size]?=some (.cells #[.int .i64 p1,.int .i64 p2] 45 (0,0))):=⟨by rw [hw3];exact World.alloc_heap_new w2 _⟩
 obtain ⟨bp,hbp⟩:∃ b_,b_=w2.heap.size:=⟨_,rfl⟩
 have HS3:Aside0 (bp<w3.heap.size):=⟨by rw [hw3,alloc_size];omega⟩
 have CO:=(boxed_below BO.out hb3).cell
 have HB3:=Aside0.mk hb3
 have HW3:=Aside0.mk hw3
 rw [hw3] at CO
 clear hb hb3 hw3
 go_wp2
 rw [←HW3.out]
 rw [←hbp] at BP ⊢
 clear hbp HW3 CO
 go_loopg [7,18] front.length (fun kq v7 v18 w'=>∃ (i:Int) (nx:List S45),v18=.int .i64 i∧Aside0 (0≤i∧i.toNat + kq=front.length)∧Aside0 (∀ q ∈ front.take i.toNat,frLe q ⟨p1,p2⟩=false)∧Aside0 (nx=(front.take i.toNat).filter fun q=> !frLe ⟨p1,p2⟩ q)∧Aside0 (Kd.R k45 45 w' w3.heap.size (fun _=>True) v7 nx)∧Aside0 (Below w3.heap.size w3 w'))
 case atStart=>exact ⟨0,[],(by first|rfl|(simp;done)),⟨by simp⟩,⟨by simp⟩,⟨by simp⟩,⟨Kd.R_nil _ _ _ _ _⟩,⟨by repeat (first|exact Below.refl _ _|apply below_drew1|apply pw_below_drewN)⟩⟩
 case round=>
  obtain ⟨i,nx,rfl,HK1,HNO,HNX,HO,HB⟩:=hrel
  obtain ⟨An,cn,en⟩:=Kd.R_slice HO.out
  subst en
  have BPw:Aside0 (wr.heap[bp]?=some (.cells #[.int .i64 p1,.int .i64 p2] 45 (0,0))):=⟨(HB.out.block _ HS3.out).trans BP.out⟩
  have HBW:=Aside0.mk (below_step HB3.out HB.out)
  by_cases c:i<(front.length:Int)
  ·have cb:decide (i<(front.length:Int))=true:=decide_eq_true c
   have pi:0≤i:=HK1.out.1
   obtain ⟨ad1,e1,hx0,hx1⟩:=at_T45 (Kd.C_below CF.out HBW.out) i pi c
   subst e1
   obtain ⟨q,hq⟩:∃ q,rd_T45 front i=q:=⟨_,rfl⟩
   rw [hq] at hx0 hx1
   have HQ:Aside0 (front[i.toNat]?=some q):=⟨by
    rw [←hq,List.getElem?_eq_getElem (show i.toNat<front.length by omega)]
    simp [rd_T45,show i.toNat<front.length by omega]⟩
   have HW:Aside0 (wrap64 (i + 1)=i + 1∧(i + 1).toNat=i.toNat + 1):=⟨by unfold wrap64;have h1:=HK1.out;have:=HF.out;omega,by have:=HK1.out;omega⟩
   have HLT:Aside0 (i.toNat<front.length):=⟨by omega⟩
   have HTK:Aside0 (front.take (i.toNat + 1)=front.take i.toNat++[q]):=⟨by rw [List.take_add_one,HQ.out];rfl⟩
   obtain ⟨q0,q1⟩:=q
   replace hx0:wr.cell? (ad1.add (i.toNat * 2))=some (.int .i64 q0):=hx0
   replace hx1:wr.cell? ⟨(ad1.add (i.toNat * 2)).block,(ad1.add (i.toNat * 2)).off + 1,none⟩=some (.int .i64 q1):=hx1
   have qi:=eq_true c
   replace pi:=eq_true pi
   clear c hq
   obtain ⟨wq,hwq⟩:∃ w_,w_=wr.alloc (Obj.cells #[Value.int .i64 q0,Value.int .i64 q1] 45):=⟨_,rfl⟩
   have hbq:Below w3.heap.size w3 wq:=by rw [hwq];exact below_alloc HB.out _
   have BQ:Aside0 (wq.heap[wr.heap.size]?=some (.cells #[.int .i64 q0,.int .i64 q1] 45 (0,0))):=⟨by rw [hwq];exact World.alloc_heap_new wr _⟩
   have HSQ:Aside0 (wr.heap.size<wq.heap.size):=⟨by rw [hwq,alloc_size];omega⟩
   have bpq:wq.heap[bp]?=some (.cells #[.int .i64 p1,.int .i64 p2] 45 (0,0)):=(hbq.block _ HS3.out).trans BP.out
   have cp0:wq.cell? ⟨bp,0,none⟩=some (.int .i64 p1):=(blk_cell bpq 0).trans rfl
   have cp1:wq.cell? ⟨bp,1,none⟩=some (.int .i64 p2):=(blk_cell bpq 1).trans rfl
   have HOQ:Aside0 (Kd.R k45 45 wq w3.heap.size (fun _=>True) (.slice An nx.length cn) nx):=⟨by rw [hwq];exact Kd.R_alloc HO.out _⟩
   have HBQ:=Aside0.mk hbq
   have HWQ:=Aside0.mk hwq
   rw [hwq] at cp0 cp1
   clear hbq hwq bpq
   by_cases he:q0=p1∧q1=p2
   ·obtain ⟨rfl,rfl⟩:=he
    have hb0:(q0 == q0)=true:=by simp
    have hb1:(q1 == q1)=true:=by simp
    go_wp2
    rw [←HWQ.out]
    (try simp only [Exit.inBlock,Exit.then])
    refine bodyPost_ret (results_none rfl _ _ _) rfl ?_
    exact ⟨by first|rfl|(simp;done),wq,below_step HB3.out HBQ.out,fun _=>rfl,fun hn=>absurd (any_at HQ.out (by simp [frLe])) hn⟩
   ·have hbe:(q0 == p1 && (q1 == p2))=false:=by
     by_cases h1:q0=p1
     ·have h2:q1≠p2:=fun e=>he ⟨h1,e⟩
      simp [h2]
     ·simp [h1]
    have HE:=Aside0.mk he
    clear he
    go_wp2_with (fail)
    rw [←HWQ.out]
    refine (impl_dominates.calls q0 q1 p1 p2 _ wq (dom_ne HE.out)).mono ?_
    rintro e w5 ⟨rfl,hb5⟩
    dsimp only
    have HB5:=Aside0.mk (below_step HBQ.out hb5)
    have HO5:=Aside0.mk (Kd.R_below HOQ.out hb5)
    have BQ5:Aside0 (w5.heap[wr.heap.size]?=some (.cells #[.int .i64 q0,.int .i64 q1] 45 (0,0))):=⟨(hb5.block _ HSQ.out).trans BQ.out⟩
    have HSQ5:Aside0 (wr.heap.size<w5.heap.size):=⟨by have:=HSQ.out;have:=below_size hb5;omega⟩
    obtain ⟨b1,hb1⟩:∃ b_:Bool,b_=(decide (q0≤p1) && decide (q1≤p2)):=⟨_,rfl⟩
    rw [←hb1]
    have HL1:Aside0 (frLe ⟨q0,q1⟩ ⟨p1,p2⟩=b1):=⟨hb1.symm⟩
    clear hb1 hb5 HBQ HOQ BQ HSQ HWQ cp0 cp1
    cases b1 with
    | true=>
     go_wp2
     (try simp only [Exit.inBlock,Exit.then])
     refine bodyPost_ret (results_none rfl _ _ _) rfl ?_
     exact ⟨by first|rfl|(simp;done),w5,below_step HB3.out HB5.out,fun _=>rfl,fun hn=>absurd (any_at HQ.out HL1.out) hn⟩
    | false=>
     have bpq:w5.heap[bp]?=some (.cells #[.int .i64 p1,.int .i64 p2] 45 (0,0)):=(HB5.out.block _ HS3.out).trans BP.out
     have cp0:w5.cell? ⟨bp,0,none⟩=some (.int .i64 p1):=(blk_cell bpq 0).trans rfl
     have cp1:w5.cell? ⟨bp,1,none⟩=some (.int .i64 p2):=(blk_cell bpq 1).trans rfl
     have cq0:w5.cell? ⟨wr.heap.size,0,none⟩=some (.int .i64 q0):=(blk_cell BQ5.out 0).trans rfl
     have cq1:w5.cell? ⟨wr.heap.size,1,none⟩=some (.int .i64 q1):=(blk_cell BQ5.out 1).trans rfl
     clear bpq
     go_wp2_with (fail)
     refine (impl_dominates.calls p1 p2 q0 q1 _ w5 (dom_ne (fun h_=>HE.out ⟨h_.1.symm,h_.2.symm⟩))).mono ?_
     rintro e w6 ⟨rfl,hb6⟩
     dsimp only
     have HB6:=Aside0.mk (below_step HB5.out hb6)
     have HO6:=Aside0.mk (Kd.R_below HO5.out hb6)
     have BQ6:w6.heap[wr.heap.size]?=some (.cells #[.int .i64 q0,.int .i64 q1] 45 (0,0)):=(hb6.block _ HSQ5.out).trans BQ5.out
     clear cp0 cp1 cq0 cq1
     have cq0:w6.cell? ⟨wr.heap.size,0,none⟩=some (.int .i64 q0):=(blk_cell BQ6 0).trans rfl
     have cq1:w6.cell? ⟨wr.heap.size,1,none⟩=some (.int .i64 q1):=(blk_cell BQ6 1).trans rfl
     obtain ⟨b2,hb2⟩:∃ b_:Bool,b_=(decide (p1≤q0) && decide (p2≤q1)):=⟨_,rfl⟩
     rw [←hb2]
     have HL2:Aside0 (frLe ⟨p1,p2⟩ ⟨q0,q1⟩=b2):=⟨hb2.symm⟩
     clear hb2 hb6 HB5 HO5 BQ5 HSQ5 BQ6
     have HNO2:Aside0 (∀ q ∈ front.take (i + 1).toNat,frLe q ⟨p1,p2⟩=false):=⟨fun q_ hq_=>by
      rw [HW.out.2,HTK.out,List.mem_append,List.mem_singleton] at hq_
      rcases hq_ with h_|rfl
      ·exact HNO.out _ h_
      ·exact HL1.out⟩
     cases b2 with
     | true=>
      go_wp2
      go_roundg (front.length - (i.toNat + 1))
      case measure=>have:=HK1.out;have:=HLT.out;omega
      case rel=>exact ⟨i + 1,nx,(by first|rfl|(rw [i64_w,HW.out.1])|(simp [HW.out.1];done)),⟨by have:=HK1.out;have:=HW.out.2;have:=HLT.out;omega⟩,HNO2,⟨by rw [HW.out.2,HTK.out,List.filter_append,←HNX.out];simp [HL2.out]⟩,⟨by (with_reducible repeat (first|apply Kd.R_alloc|apply Kd.R_drewN|apply Kd.R_drew));exact HO6.out⟩,⟨by repeat (first|exact HB6.out|apply below_alloc|apply pw_below_drewN|apply below_drew1)⟩⟩
     | false=>
      have HNL:Aside0 (nx.length≤i.toNat):=⟨by rw [HNX.out];exact Nat.le_trans (List.length_filter_le _ _) (by simp;omega)⟩
      go_wp2_with (first|((with_reducible refine gate_builtin (b:=.append) (xs:=#[.tmp 34,.tmp 36]) rfl ?_);at_builtin;refine Kd.R_append k45 (w0:=w3) w3.heap.size rfl (.tmp 34) (.tmp 36) 36 45 (.agg #[(.int .i64 0),(.int .i64 0)]) 16 rfl Try.underlying36 info45 rfl (by decide) (by omega) (.slice An nx.length cn) nx (⟨q0,q1⟩:S45) [.int .i64 q0,.int .i64 q1] (fun _=>True) (fun _=>False) rfl rfl ?aP (fun _ hk=>hk.elim) ?aF ?aO ?aB ?aS ?aL ?_;(case aP=>exact k45_mkM _ _ _ (⟨q0,q1⟩:S45));(case aB=>exact (by repeat (first|exact HB6.out|apply below_alloc|apply pw_below_drewN|apply below_drew1)));(case aF=>exact (fun _ _=>trivial));(case aO=>exact (by (with_reducible repeat (first|apply Kd.R_alloc|apply Kd.R_drewN|apply Kd.R_drew));exact HO6.out));(case aS=>exact (below_size (by repeat (first|exact HB6.out|apply below_alloc|apply pw_below_drewN|apply below_drew1))));(case aL=>have:=HNL.out;have:=HF.out;have:=HLT.out;omega);intro v7 w7 ho hb hg hat;clear hg hat;have HO7:=Aside0.mk ho;have HB7:=Aside0.mk hb;clear ho hb))
      go_roundg (front.length - (i.toNat + 1))
      case measure=>have:=HK1.out;have:=HLT.out;omega
      case rel=>exact ⟨i + 1,nx++[⟨q0,q1⟩],(by first|rfl|(rw [i64_w,HW.out.1])|(simp [HW.out.1];done)),⟨by have:=HK1.out;have:=HW.out.2;have:=HLT.out;omega⟩,HNO2,⟨by rw [HW.out.2,HTK.out,List.filter_append,←HNX.out];simp [HL2.out]⟩,⟨by (with_reducible repeat (first|apply Kd.R_alloc|apply Kd.R_drewN|apply Kd.R_drew));exact HO7.out⟩,⟨by repeat (first|exact HB7.out|apply below_alloc|apply pw_below_drewN|apply below_drew1)⟩⟩
  ·have cb:decide (i<(front.length:Int))=false:=decide_eq_false c
   have HNX2:Aside0 (nx=front.filter fun q=> !frLe ⟨p1,p2⟩ q):=⟨by rw [HNX.out,List.take_of_length_le (by have:=HK1.out;omega)]⟩
   have HANY:Aside0 (¬ front.any (fun q=>frLe q ⟨p1,p2⟩)=true):=⟨fun h_=>by
    obtain ⟨q_,hm_,hq_⟩:=List.any_eq_true.1 h_
    have:=HNO.out q_ (by rw [List.take_of_length_le (by have:=HK1.out;omega)];exact hm_)
    rw [this] at hq_;cases hq_⟩
   have HNL:Aside0 (nx.length≤1048576):=⟨by rw [HNX2.out];exact Nat.le_trans (List.length_filter_le _ _) HF.out⟩
   clear c HNO HNX BPw HBW
   go_wp2
   go_loopg [10] nx.length (fun kq v10 w'=>∃ (kk:Int),v10=.int .i64 kk∧Aside0 (0≤kk∧kk.toNat=kq∧kq≤nx.length)∧Aside0 (frPos ⟨p1,p2⟩ nx kk.toNat=frPos ⟨p1,p2⟩ nx nx.length)∧Aside0 (Kd.R k45 45 w' w3.heap.size (fun _=>True) (.slice An nx.length cn) nx)∧Aside0 (Below w3.heap.size w3 w'))
   case atStart=>exact ⟨(nx.length:Int),(by first|rfl|(simp;done)),⟨by omega⟩,⟨by simp⟩,⟨by (with_reducible repeat (first|apply Kd.R_alloc|apply Kd.R_drewN|apply Kd.R_drew));exact HO.out⟩,⟨by repeat (first|exact HB.out|apply below_alloc|apply pw_below_drewN|apply below_drew1)⟩⟩
   case round=>
    clear HO HB
    obtain ⟨kk,rfl,HK2,HP,HO,HB⟩:=hrel
    have bpw:wr.heap[bp]?=some (.cells #[.int .i64 p1,.int .i64 p2] 45 (0,0)):=(HB.out.block _ HS3.out).trans BP.out
    have cp0:wr.cell? ⟨bp,0,none⟩=some (.int .i64 p1):=(blk_cell bpw 0).trans rfl
    have cp1:wr.cell? ⟨bp,1,none⟩=some (.int .i64 p2):=(blk_cell bpw 1).trans rfl
    clear bpw
    by_cases hk:0<kk
    ·have kb:decide (0<kk)=true:=decide_eq_true hk
     obtain ⟨j,hj⟩:∃ j:Int,wrap64 (kk - 1)=j:=⟨_,rfl⟩
     have HJ:Aside0 (j=kk - 1):=⟨by rw [←hj];unfold wrap64;have:=HK2.out;have:=HNL.out;omega⟩
     have hw:IntKind.i64.wrap (kk - 1)=j:=(i64_w _).trans hj
     have p2_:0≤j:=by have:=HJ.out;omega
     have q2_:j<(nx.length:Int):=by have:=HK2.out;have:=HJ.out;omega
     obtain ⟨ad2,e2,hy0,hy1⟩:=at_T45 (Kd.R_reads' HO.out).2.2 j p2_ q2_
     subst e2
     obtain ⟨x,hx⟩:∃ x:Int,(rd_T45 nx j).f0=x:=⟨_,rfl⟩
     rw [hx] at hy0
     have HST:Aside0 (frPos ⟨p1,p2⟩ nx kk.toNat=if x>p1 then frPos ⟨p1,p2⟩ nx j.toNat else kk.toNat):=⟨by
      rw [show kk.toNat=j.toNat + 1 by have:=HJ.out;omega,frPos,show ((j.toNat:Nat):Int)=j by omega,hx]⟩
     clear hx hy1 hk
     replace p2_:=eq_true p2_
     replace q2_:=eq_true q2_
     by_cases hg:p1<x
     ·have gb:decide (p1<x)=true:=decide_eq_true hg
      have HPJ:Aside0 (frPos ⟨p1,p2⟩ nx j.toNat=frPos ⟨p1,p2⟩ nx nx.length):=⟨by rw [←HP.out,HST.out,if_pos hg]⟩
      clear hg
      go_wp2
      go_region
      all_goals
       go_wp2
       go_roundg j.toNat
       case measure=>have:=HK2.out;have:=HJ.out;have:=of_eq_true p2_;omega
       case rel=>exact ⟨j,(by first|rfl|(simp;done)|(simp [*];done)),⟨by have:=HK2.out;have:=HJ.out;have:=of_eq_true p2_;omega⟩,HPJ,⟨by (with_reducible repeat (first|apply Kd.R_alloc|apply Kd.R_drewN|apply Kd.R_drew));exact HO.out⟩,⟨by repeat (first|exact HB.out|apply below_alloc|apply pw_below_drewN|apply below_drew1)⟩⟩
     ·have gb:decide (p1<x)=false:=decide_eq_false hg
      have HPK:Aside0 (frPos ⟨p1,p2⟩ nx nx.length=kk.toNat):=⟨by rw [←HP.out,HST.out,if_neg hg]⟩
      clear hg
      go_wp2
      go_region
      all_goals
       generalize hq_:World.drew wr=wd
       have n0_:Aside0 (Kd.R k45 45 wd w3.heap.size (fun _=>True) (.slice (some ad2) nx.length cn) nx):=⟨by rw [←hq_];exact Kd.R_drew HO.out⟩
       have n1_:Aside0 (Below w3.heap.size w3 wd):=⟨by rw [←hq_];exact below_drew1 HB.out⟩
       have m0_:wd.cell? ⟨bp,0,none⟩=some (.int .i64 p1):=by rw [←hq_];exact cp0
       have m1_:wd.cell? ⟨bp,1,none⟩=some (.int .i64 p2):=by rw [←hq_];exact cp1
       clear HO HB cp0 cp1 hq_
       have HO:=n0_
       have HB:=n1_
       have cp0:=m0_
       have cp1:=m1_
       clear n0_ n1_ m0_ m1_
       go_wp2_with (first|((with_reducible refine gate_builtin (b:=.append) (xs:=#[.tmp 56,.tmp 58]) rfl ?_);at_builtin;refine Kd.R_append k45 (w0:=w3) w3.heap.size rfl (.tmp 56) (.tmp 58) 36 45 (.agg #[(.int .i64 0),(.int .i64 0)]) 16 rfl Try.underlying36 info45 rfl (by decide) (by omega) (.slice (some ad2) nx.length cn) nx (⟨p1,p2⟩:S45) [.int .i64 p1,.int .i64 p2] (fun _=>True) (fun _=>False) rfl rfl ?aP (fun _ hk=>hk.elim) ?aF ?aO ?aB ?aS ?aL ?_;(case aP=>exact k45_mkM _ _ _ (⟨p1,p2⟩:S45));(case aB=>exact (by repeat (first|exact HB.out|apply below_alloc|apply pw_below_drewN|apply below_drew1)));(case aF=>exact (fun _ _=>trivial));(case aO=>exact (by (with_reducible repeat (first|apply Kd.R_alloc|apply Kd.R_drewN|apply Kd.R_drew));exact HO.out));(case aS=>exact (below_size (by repeat (first|exact HB.out|apply below_alloc|apply pw_below_drewN|apply below_drew1))));(case aL=>have:=HNL.out;omega);intro v6 w4 ho hb hg hat;clear hg hat;have HO6:=Aside0.mk ho;have HB6:=Aside0.mk hb;clear ho hb;obtain ⟨g6,c6,ev6,gb6,gl6,cl6,hg6⟩:=Kd.R_form HO6.out (by simp);subst ev6;have GB6:=Aside0.mk gb6;have HG6:=Aside0.mk hg6;have GL6:=Aside0.mk gl6;clear gb6 gl6 hg6))
       obtain ⟨q1,hq1⟩:∃ q:Int,wrap64 (kk + 1)=q:=⟨_,rfl⟩
       have HQ:Aside0 (q1=kk + 1):=⟨by rw [←hq1];unfold wrap64;have:=HK2.out;have:=HNL.out;omega⟩
       have hqw:IntKind.i64.wrap (kk + 1)=q1:=(i64_w _).trans hq1
       have HLE:Aside0 (0≤kk∧kk≤nx.length):=⟨by have:=HK2.out;omega⟩
       obtain ⟨i0_,hi0_,_,hsz_,_⟩:=info_parts info45
       have hlen6:nx.length + 1≤c6:=by have:=(Kd.R_reads' HO6.out).2.1;simpa using this
       have hcs6:cl6.toList.length=c6 * 2:=by
        obtain ⟨_,hv_⟩:=own2_of_R HO6.out
        rcases hv_ with ⟨hv_,_⟩ | ⟨g2_,cap2_,cur2_,hv_,_,hc_,_,_,hs_,_⟩
        ·cases hv_
        ·injection hv_ with ha_ _ hc2_
         injection ha_ with ha_
         injection ha_ with ha_
         subst ha_
         subst hc2_
         have hg_:=HG6.out
         rw [hg_] at hc_
         injection hc_ with hc_
         injection hc_ with hc_
         subst hc_
         simpa using hs_
       have hcutA:=cut_from (P:=Try.prog) 36 45 .i64 Try.underlying36 hi0_ 2 hsz_ (some ⟨g6,0,none⟩) (nx.length + 1) c6 q1 (by have:=HLE.out;have:=HQ.out;omega) (by have:=HLE.out;have:=HQ.out;omega)
       have hcutB:=cut_from (P:=Try.prog) 36 45 .i64 Try.underlying36 hi0_ 2 hsz_ (some ⟨g6,0,none⟩) (nx.length + 1) c6 kk (by have:=HLE.out;omega) (by have:=HLE.out;omega)
       rw [cut_addr] at hcutA hcutB
       obtain ⟨oA,hoA⟩:∃ o_,o_=(if c6=q1.toNat then 0 else q1.toNat * 2):=⟨_,rfl⟩
       obtain ⟨oB,hoB⟩:∃ o_,o_=(if c6=kk.toNat then 0 else kk.toNat * 2):=⟨_,rfl⟩
       rw [←hoA] at hcutA
       rw [←hoB] at hcutB
       have HOA:=Aside0.mk hoA
       have HOB:=Aside0.mk hoB
       have HC6:=Aside0.mk hcs6
       have HL6:=Aside0.mk hlen6
       clear hoA hoB hcs6 hlen6
       obtain ⟨cs,hcs⟩:∃ cs:List Value,cs=fl2 (nx.drop kk.toNat):=⟨_,rfl⟩
       have HCS:=Aside0.mk hcs
       have HCL:Aside0 (cs.length=(nx.length - kk.toNat) * 2):=⟨by rw [hcs,fl2_len,List.length_drop]⟩
       clear hcs
       go_region_law (refine step_copy_splice2 (by rfl) (.tmp 63) (.tmp 66) 36 36 (by rfl) 45 Try.underlying36 2 (by rw [hi0_];exact congrArg some hsz_) g6 oA (nx.length + 1 - q1.toNat) (c6 - q1.toNat) ⟨g6,oB,none⟩ (nx.length + 1 - kk.toNat) (c6 - kk.toNat) (by go_simp) (by go_simp) g6 (q1.toNat * 2) cl6.toList 45 (by rw [Array.toArray_toList];exact HG6.out) cs (by rw [HCL.out];have h1_:=HLE.out;have h2_:=HQ.out;show _=min (nx.length + 1 - kk.toNat) (nx.length + 1 - q1.toNat) * 2;congr 1;omega) ⟨rfl,fr_pos (p:=⟨p1,p2⟩) HO6.out HLE.out.1 HLE.out.2 HQ.out HL6.out HCS.out HOA.out HOB.out⟩ (by rw [HC6.out,HCL.out];have h1_:=HLE.out;have h2_:=HQ.out;have:=HL6.out;omega) (by rw [HC6.out,HOA.out];have h1_:=HLE.out;have h2_:=HQ.out;have:=HL6.out;split <;> omega) (by rw [HCS.out];exact fl2_one _) w3.heap.size w3 (by repeat (first|exact HB6.out|apply below_alloc|apply pw_below_drewN|apply below_drew1)) GB6.out ?_;intro w7 hg7 hb7)
       all_goals
        have HO7:Aside0 (Kd.R k45 45 w7 w3.heap.size (fun _=>True) (.slice (some ⟨g6,0,none⟩) (nx.length + 1) c6) (splice (nx++[⟨p1,p2⟩]) q1.toNat (nx.drop kk.toNat))):=⟨by
         have h6:=R_splice2 HO6.out HG6.out (off:=q1.toNat) (ys:=nx.drop kk.toNat) (by have h1_:=HLE.out;have h2_:=HQ.out;simp;omega) (by rw [←HCS.out];exact hg7)
         rw [List.length_append,List.length_singleton] at h6
         exact h6⟩
        have HB7:=Aside0.mk hb7
        clear hb7 hg7 HB6 HO6 HG6 hcutA hcutB HOA HOB HCS HCL HC6
        have HX7:Aside0 ((splice (nx++[⟨p1,p2⟩]) q1.toNat (nx.drop kk.toNat)).set kk.toNat ⟨p1,p2⟩=frPut ⟨p1,p2⟩ front):=⟨by rw [HQ.out,sb_setG HLE.out.1 HLE.out.2,frPut,if_neg HANY.out,←HNX2.out,frIns,HPK.out]⟩
        obtain ⟨xs7,hxs7⟩:∃ xs7:List S45,xs7=splice (nx++[⟨p1,p2⟩]) q1.toNat (nx.drop kk.toNat):=⟨_,rfl⟩
        rw [←hxs7] at HO7 HX7
        clear hxs7
        have bp7:w7.heap[bp]?=some (.cells #[.int .i64 p1,.int .i64 p2] 45 (0,0)):=(HB7.out.block _ HS3.out).trans BP.out
        have cp0:w7.cell? ⟨bp,0,none⟩=some (.int .i64 p1):=(blk_cell bp7 0).trans rfl
        have cp1:w7.cell? ⟨bp,1,none⟩=some (.int .i64 p2):=(blk_cell bp7 1).trans rfl
        have hk0:0≤kk:=HLE.out.1
        have hk1:kk<((nx.length + 1:Nat):Int):=by have:=HLE.out;omega
        obtain ⟨ce,hcl,hM,hcc,hfr⟩:=Kd.R_elem HO7.out z45 kk hk0 hk1
        obtain rfl:=k45_openM hM
        have HP:=Kd.R_seg HO7.out kk hk0 hk1 (seg:=[.int .i64 p1,.int .i64 p2]) (j:=0) hcl hcc (show 2≤2 from by decide) (x':=(⟨p1,p2⟩:S45)) (k45_mkM _ _ _ (⟨p1,p2⟩:S45)) (fun _ hk=>hk)
        have hn0:w7.cell? ⟨g6,kk.toNat * 2,none⟩=some (.int .i64 _):=hcc 0 _ rfl
        have hn1:w7.cell? ⟨g6,kk.toNat * 2 + 1,none⟩=some (.int .i64 _):=hcc 1 _ rfl
        have hf0:w7.frozen? ⟨g6,kk.toNat * 2,none⟩=false:=hfr 0
        have hf1:w7.frozen? ⟨g6,kk.toNat * 2 + 1,none⟩=false:=hfr 1
        have HO8:Aside0 (Kd.R k45 45 ((w7.setCell ⟨g6,kk.toNat * 2,none⟩ (.int .i64 p1)).setCell ⟨g6,kk.toNat * 2 + 1,none⟩ (.int .i64 p2)) w3.heap.size (fun _=>True) (.slice (some ⟨g6,0,none⟩) (nx.length + 1) c6) (frPut ⟨p1,p2⟩ front)):=⟨by rw [←HX7.out];exact HP.1⟩
        have HB8:Aside0 (Below w3.heap.size w3 ((w7.setCell ⟨g6,kk.toNat * 2,none⟩ (.int .i64 p1)).setCell ⟨g6,kk.toNat * 2 + 1,none⟩ (.int .i64 p2))):=⟨below_set (below_set HB7.out GB6.out) GB6.out⟩
        have r0:=eq_true hk0
        have r1:=eq_true (show kk<(nx.length:Int) + 1 by omega)
        have r2:=eq_true hk1
        clear hcl hM hcc hfr HP hk0 hk1 bp7 HB7 HO7 HX7
        go_wp2_with (first|((with_reducible refine gate_store (t:=45) (p:=71) rfl ?_);refine store_event (t:=45) (p:=71) (v:=?vo_w8) (w1:=((w7.setCell ⟨g6,kk.toNat * 2,none⟩ (.int .i64 p1)).setCell ⟨g6,kk.toNat * 2 + 1,none⟩ (.int .i64 p2))) ?hg ?ho ?hn ?hr ?_;(case ho=>rfl);(case hg=>rfl);(case hn=>rfl);(case hr=>first|(go_simp;done)|(go_simp;rfl));intro w8 hw;have HO9:=Aside0.mk (show Kd.R k45 45 w8 w3.heap.size (fun _=>True) (.slice (some ⟨g6,0,none⟩) (nx.length + 1) c6) (frPut ⟨p1,p2⟩ front) from by rw [hw];exact HO8.out);have HB9:=Aside0.mk (show Below w3.heap.size w3 w8 from by rw [hw];exact HB8.out);clear hw HO8 HB8 hn0 hn1 hf0 hf1 cp0 cp1;have YO:=(boxed_below BO.out (below_step HB3.out HB9.out)).cell;have YF:=(boxed_below BO.out (below_step HB3.out HB9.out)).frozen))
        refine bodyPost_end (results_none rfl _ _ _) rfl ?_
        exact ⟨rfl,w8,below_step HB3.out HB9.out,fun h_=>absurd h_ HANY.out,fun _=>⟨_,Kd.R_lower HO9.out (below_size HB3.out),rfl⟩⟩
    ·have kb:decide (0<kk)=false:=decide_eq_false hk
     have HPK:Aside0 (frPos ⟨p1,p2⟩ nx nx.length=kk.toNat):=⟨by rw [←HP.out,show kk.toNat=0 by omega];rfl⟩
     clear hk
     go_wp2
     go_region
     all_goals
      generalize hq_:World.drew wr=wd
      have n0_:Aside0 (Kd.R k45 45 wd w3.heap.size (fun _=>True) (.slice An nx.length cn) nx):=⟨by rw [←hq_];exact Kd.R_drew HO.out⟩
      have n1_:Aside0 (Below w3.heap.size w3 wd):=⟨by rw [←hq_];exact below_drew1 HB.out⟩
      have m0_:wd.cell? ⟨bp,0,none⟩=some (.int .i64 p1):=by rw [←hq_];exact cp0
      have m1_:wd.cell? ⟨bp,1,none⟩=some (.int .i64 p2):=by rw [←hq_];exact cp1
      clear HO HB cp0 cp1 hq_
      have HO:=n0_
      have HB:=n1_
      have cp0:=m0_
      have cp1:=m1_
      clear n0_ n1_ m0_ m1_
      go_wp2_with (first|((with_reducible refine gate_builtin (b:=.append) (xs:=#[.tmp 56,.tmp 58]) rfl ?_);at_builtin;refine Kd.R_append k45 (w0:=w3) w3.heap.size rfl (.tmp 56) (.tmp 58) 36 45 (.agg #[(.int .i64 0),(.int .i64 0)]) 16 rfl Try.underlying36 info45 rfl (by decide) (by omega) (.slice An nx.length cn) nx (⟨p1,p2⟩:S45) [.int .i64 p1,.int .i64 p2] (fun _=>True) (fun _=>False) rfl rfl ?aP (fun _ hk=>hk.elim) ?aF ?aO ?aB ?aS ?aL ?_;(case aP=>exact k45_mkM _ _ _ (⟨p1,p2⟩:S45));(case aB=>exact (by repeat (first|exact HB.out|apply below_alloc|apply pw_below_drewN|apply below_drew1)));(case aF=>exact (fun _ _=>trivial));(case aO=>exact (by (with_reducible repeat (first|apply Kd.R_alloc|apply Kd.R_drewN|apply Kd.R_drew));exact HO.out));(case aS=>exact (below_size (by repeat (first|exact HB.out|apply below_alloc|apply pw_below_drewN|apply below_drew1))));(case aL=>have:=HNL.out;omega);intro v6 w4 ho hb hg hat;clear hg hat;have HO6:=Aside0.mk ho;have HB6:=Aside0.mk hb;clear ho hb;obtain ⟨g6,c6,ev6,gb6,gl6,cl6,hg6⟩:=Kd.R_form HO6.out (by simp);subst ev6;have GB6:=Aside0.mk gb6;have HG6:=Aside0.mk hg6;have GL6:=Aside0.mk gl6;clear gb6 gl6 hg6))
      obtain ⟨q1,hq1⟩:∃ q:Int,wrap64 (kk + 1)=q:=⟨_,rfl⟩
      have HQ:Aside0 (q1=kk + 1):=⟨by rw [←hq1];unfold wrap64;have:=HK2.out;have:=HNL.out;omega⟩
      have hqw:IntKind.i64.wrap (kk + 1)=q1:=(i64_w _).trans hq1
      have HLE:Aside0 (0≤kk∧kk≤nx.length):=⟨by have:=HK2.out;omega⟩
      obtain ⟨i0_,hi0_,_,hsz_,_⟩:=info_parts info45
      have hlen6:nx.length + 1≤c6:=by have:=(Kd.R_reads' HO6.out).2.1;simpa using this
      have hcs6:cl6.toList.length=c6 * 2:=by
       obtain ⟨_,hv_⟩:=own2_of_R HO6.out
       rcases hv_ with ⟨hv_,_⟩ | ⟨g2_,cap2_,cur2_,hv_,_,hc_,_,_,hs_,_⟩
       ·cases hv_
       ·injection hv_ with ha_ _ hc2_
        injection ha_ with ha_
        injection ha_ with ha_
        subst ha_
        subst hc2_
        have hg_:=HG6.out
        rw [hg_] at hc_
        injection hc_ with hc_
        injection hc_ with hc_
        subst hc_
        simpa using hs_
      have hcutA:=cut_from (P:=Try.prog) 36 45 .i64 Try.underlying36 hi0_ 2 hsz_ (some ⟨g6,0,none⟩) (nx.length + 1) c6 q1 (by have:=HLE.out;have:=HQ.out;omega) (by have:=HLE.out;have:=HQ.out;omega)
      have hcutB:=cut_from (P:=Try.prog) 36 45 .i64 Try.underlying36 hi0_ 2 hsz_ (some ⟨g6,0,none⟩) (nx.length + 1) c6 kk (by have:=HLE.out;omega) (by have:=HLE.out;omega)
      rw [cut_addr] at hcutA hcutB
      obtain ⟨oA,hoA⟩:∃ o_,o_=(if c6=q1.toNat then 0 else q1.toNat * 2):=⟨_,rfl⟩
      obtain ⟨oB,hoB⟩:∃ o_,o_=(if c6=kk.toNat then 0 else kk.toNat * 2):=⟨_,rfl⟩
      rw [←hoA] at hcutA
      rw [←hoB] at hcutB
      have HOA:=Aside0.mk hoA
      have HOB:=Aside0.mk hoB
      have HC6:=Aside0.mk hcs6
      have HL6:=Aside0.mk hlen6
      clear hoA hoB hcs6 hlen6
      obtain ⟨cs,hcs⟩:∃ cs:List Value,cs=fl2 (nx.drop kk.toNat):=⟨_,rfl⟩
      have HCS:=Aside0.mk hcs
      have HCL:Aside0 (cs.length=(nx.length - kk.toNat) * 2):=⟨by rw [hcs,fl2_len,List.length_drop]⟩
      clear hcs
      go_region_law (refine step_copy_splice2 (by rfl) (.tmp 63) (.tmp 66) 36 36 (by rfl) 45 Try.underlying36 2 (by rw [hi0_];exact congrArg some hsz_) g6 oA (nx.length + 1 - q1.toNat) (c6 - q1.toNat) ⟨g6,oB,none⟩ (nx.length + 1 - kk.toNat) (c6 - kk.toNat) (by go_simp) (by go_simp) g6 (q1.toNat * 2) cl6.toList 45 (by rw [Array.toArray_toList];exact HG6.out) cs (by rw [HCL.out];have h1_:=HLE.out;have h2_:=HQ.out;show _=min (nx.length + 1 - kk.toNat) (nx.length + 1 - q1.toNat) * 2;congr 1;omega) ⟨rfl,fr_pos (p:=⟨p1,p2⟩) HO6.out HLE.out.1 HLE.out.2 HQ.out HL6.out HCS.out HOA.out HOB.out⟩ (by rw [HC6.out,HCL.out];have h1_:=HLE.out;have h2_:=HQ.out;have:=HL6.out;omega) (by rw [HC6.out,HOA.out];have h1_:=HLE.out;have h2_:=HQ.out;have:=HL6.out;split <;> omega) (by rw [HCS.out];exact fl2_one _) w3.heap.size w3 (by repeat (first|exact HB6.out|apply below_alloc|apply pw_below_drewN|apply below_drew1)) GB6.out ?_;intro w7 hg7 hb7)
      all_goals
       have HO7:Aside0 (Kd.R k45 45 w7 w3.heap.size (fun _=>True) (.slice (some ⟨g6,0,none⟩) (nx.length + 1) c6) (splice (nx++[⟨p1,p2⟩]) q1.toNat (nx.drop kk.toNat))):=⟨by
        have h6:=R_splice2 HO6.out HG6.out (off:=q1.toNat) (ys:=nx.drop kk.toNat) (by have h1_:=HLE.out;have h2_:=HQ.out;simp;omega) (by rw [←HCS.out];exact hg7)
        rw [List.length_append,List.length_singleton] at h6
        exact h6⟩
       have HB7:=Aside0.mk hb7
       clear hb7 hg7 HB6 HO6 HG6 hcutA hcutB HOA HOB HCS HCL HC6
       have HX7:Aside0 ((splice (nx++[⟨p1,p2⟩]) q1.toNat (nx.drop kk.toNat)).set kk.toNat ⟨p1,p2⟩=frPut ⟨p1,p2⟩ front):=⟨by rw [HQ.out,sb_setG HLE.out.1 HLE.out.2,frPut,if_neg HANY.out,←HNX2.out,frIns,HPK.out]⟩
       obtain ⟨xs7,hxs7⟩:∃ xs7:List S45,xs7=splice (nx++[⟨p1,p2⟩]) q1.toNat (nx.drop kk.toNat):=⟨_,rfl⟩
       rw [←hxs7] at HO7 HX7
       clear hxs7
       have bp7:w7.heap[bp]?=some (.cells #[.int .i64 p1,.int .i64 p2] 45 (0,0)):=(HB7.out.block _ HS3.out).trans BP.out
       have cp0:w7.cell? ⟨bp,0,none⟩=some (.int .i64 p1):=(blk_cell bp7 0).trans rfl
       have cp1:w7.cell? ⟨bp,1,none⟩=some (.int .i64 p2):=(blk_cell bp7 1).trans rfl
       have hk0:0≤kk:=HLE.out.1
       have hk1:kk<((nx.length + 1:Nat):Int):=by have:=HLE.out;omega
       obtain ⟨ce,hcl,hM,hcc,hfr⟩:=Kd.R_elem HO7.out z45 kk hk0 hk1
       obtain rfl:=k45_openM hM
       have HP:=Kd.R_seg HO7.out kk hk0 hk1 (seg:=[.int .i64 p1,.int .i64 p2]) (j:=0) hcl hcc (show 2≤2 from by decide) (x':=(⟨p1,p2⟩:S45)) (k45_mkM _ _ _ (⟨p1,p2⟩:S45)) (fun _ hk=>hk)
       have hn0:w7.cell? ⟨g6,kk.toNat * 2,none⟩=some (.int .i64 _):=hcc 0 _ rfl
       have hn1:w7.cell? ⟨g6,kk.toNat * 2 + 1,none⟩=some (.int .i64 _):=hcc 1 _ rfl
       have hf0:w7.frozen? ⟨g6,kk.toNat * 2,none⟩=false:=hfr 0
       have hf1:w7.frozen? ⟨g6,kk.toNat * 2 + 1,none⟩=false:=hfr 1
       have HO8:Aside0 (Kd.R k45 45 ((w7.setCell ⟨g6,kk.toNat * 2,none⟩ (.int .i64 p1)).setCell ⟨g6,kk.toNat * 2 + 1,none⟩ (.int .i64 p2)) w3.heap.size (fun _=>True) (.slice (some ⟨g6,0,none⟩) (nx.length + 1) c6) (frPut ⟨p1,p2⟩ front)):=⟨by rw [←HX7.out];exact HP.1⟩
       have HB8:Aside0 (Below w3.heap.size w3 ((w7.setCell ⟨g6,kk.toNat * 2,none⟩ (.int .i64 p1)).setCell ⟨g6,kk.toNat * 2 + 1,none⟩ (.int .i64 p2))):=⟨below_set (below_set HB7.out GB6.out) GB6.out⟩
       have r0:=eq_true hk0
       have r1:=eq_true (show kk<(nx.length:Int) + 1 by omega)
       have r2:=eq_true hk1
       clear hcl hM hcc hfr HP hk0 hk1 bp7 HB7 HO7 HX7
       go_wp2_with (first|((with_reducible refine gate_store (t:=45) (p:=71) rfl ?_);refine store_event (t:=45) (p:=71) (v:=?vo_w8) (w1:=((w7.setCell ⟨g6,kk.toNat * 2,none⟩ (.int .i64 p1)).setCell ⟨g6,kk.toNat * 2 + 1,none⟩ (.int .i64 p2))) ?hg ?ho ?hn ?hr ?_;(case ho=>rfl);(case hg=>rfl);(case hn=>rfl);(case hr=>first|(go_simp;done)|(go_simp;rfl));intro w8 hw;have HO9:=Aside0.mk (show Kd.R k45 45 w8 w3.heap.size (fun _=>True) (.slice (some ⟨g6,0,none⟩) (nx.length + 1) c6) (frPut ⟨p1,p2⟩ front) from by rw [hw];exact HO8.out);have HB9:=Aside0.mk (show Below w3.heap.size w3 w8 from by rw [hw];exact HB8.out);clear hw HO8 HB8 hn0 hn1 hf0 hf1 cp0 cp1;have YO:=(boxed_below BO.out (below_step HB3.out HB9.out)).cell;have YF:=(boxed_below BO.out (below_step HB3.out HB9.out)).frozen))
       refine bodyPost_end (results_none rfl _ _ _) rfl ?_
       exact ⟨rfl,w8,below_step HB3.out HB9.out,fun h_=>absurd h_ HANY.out,fun _=>⟨_,Kd.R_lower HO9.out (below_size HB3.out),rfl⟩⟩
def impl_frontOf.step (l0:List S47) (a1 a2:Int) (k:Nat) (l:List Int) (s:List S45):Option (List S45):=if s.length≤1048576 then (impl_pointOf.f k l0 l a1 a2).bind fun p=>some (frPut ⟨p.1,p.2⟩ s) else none
def impl_frontOf.f (k:Nat) (l0:List S47) (a1 a2:Int):Option (List S45):=impl_eachOrder.f (impl_frontOf.step l0 a1 a2) k (l0.length:Int) []
theorem impl_frontOf.mono:∀ a0 a1 a2 k,LeO (impl_frontOf.f k a0 a1 a2) (impl_frontOf.f (k + 1) a0 a1 a2):=by
 intro a0 a1 a2 k r h
 unfold impl_frontOf.f at h ⊢
 exact impl_eachOrder.mono _ (fun k l s r h=>by
  unfold impl_frontOf.step at h ⊢
  split at h
  ·rename_i c2
   rw [if_pos c2]
   obtain ⟨p,h5,h⟩:=Option.bind_eq_some_iff.1 h
   rw [impl_pointOf.mono _ _ _ _ _ _ h5,Option.bind_some]
   exact h
  ·cases h) _ _ _ _ h
def impl_frontOf.inv (w:World) (l0:List S47) (A0:Option Addr) (c0:Nat) (a1 a2:Int) (bj bf bg bo:Nat) (hi:Nat) (s:List S45) (W:World):Prop:=Below w.heap.size w W∧Boxed W bj 27 (.slice A0 l0.length c0)∧Boxed W bf 3 (.int .i64 a1)∧Boxed W bg 3 (.int .i64 a2)∧∃ v,Boxed W bo 36 v∧Kd.R k45 45 W hi (fun k_=>hi≤k_) v s
theorem impl_frontOf.inv_move {w:World} {l0:List S47} {A0:Option Addr} {c0:Nat} {a1 a2:Int} {bj bf bg bo hi:Nat} {s:List S45} {W W':World} {B:Nat} (h:impl_frontOf.inv w l0 A0 c0 a1 a2 bj bf bg bo hi s W) (hB:Below B W W') (hw:w.heap.size≤B) (hj:bj<B∧bf<B∧bg<B∧bo<B) (hk:Kept W W' (fun k_=>B≤k_∧k_<hi)):impl_frontOf.inv w l0 A0 c0 a1 a2 bj bf bg bo hi s W':=by
 obtain ⟨h1,h2,h3,h4,v,h8,h9⟩:=h
 exact ⟨h1.trans (hB.mono hw),(hB.block _ hj.1).trans h2,(hB.block _ hj.2.1).trans h3,(hB.block _ hj.2.2.1).trans h4,v,(hB.block _ hj.2.2.2).trans h8,Kd.R_kept h9 hk (fun k_ a b=>by omega)⟩
theorem impl_frontOf.tell {w:World} {l0:List S47} {A0:Option Addr} {c0:Nat} {a1 a2:Int} {bj bf bg bo hi:Nat} {s s':List S45} {W:World} {B k:Nat} {A:Option Addr} {c:Nat} {l:List Int} (h:impl_frontOf.inv w l0 A0 c0 a1 a2 bj bf bg bo hi s W) (hr0:Kd.C k47 w A0 l0.length l0) (hc0:l0.length≤c0) (hd2:∀ b ∈ [bj,bf,bg],b≠bo) (hl:bo<B∧w.heap.size≤bo) (hB:B≤hi) (hW:hi≤W.heap.size)
  (hr:Kd.C (Kd.int .i64) W A l.length l) (hc:l.length≤c) (hs:impl_frontOf.step l0 a1 a2 k l s=some s') :
  Calls Try.prog 126 #[.slice A l.length c,.pointer (some ⟨bj,0,none⟩),.pointer (some ⟨bf,0,none⟩),.pointer (some ⟨bg,0,none⟩),.pointer (some ⟨bo,0,none⟩)] W fun e W'=>e=.returned (.tuple #[])∧impl_frontOf.inv w l0 A0 c0 a1 a2 bj bf bg bo hi s' W'∧Kept W W' (fun k_=>k_<B):=by
 unfold impl_frontOf.step at hs
 split at hs
 case isFalse=>cases hs
 case isTrue hlen=>
 obtain ⟨p,hp,hs⟩:=Option.bind_eq_some_iff.1 hs
 obtain rfl:=Option.some.inj hs
 obtain ⟨i0,ij,if_,ig,v0,io,ir⟩:=h
 refine (impl_frontOf1.calls k bj bf bg bo A0 c0 l0 a1 a2 A c l v0 s hi _ p.1 p.2 W hc0 hc (Kd.C_below hr0 i0) hr ij if_ ig io ir hlen hp).mono ?_
 rintro e W' ⟨rfl,W1,hb,hno,hyes⟩
 have z:=fun {b:Nat} {t:TypeId} {v:Value} (h:Boxed W b t v)=>boxed_below h hb
 have k1:Below w.heap.size w W1:=below_step i0 hb
 have dj:=hd2 bj (by simp)
 have df:=hd2 bf (by simp)
 have dg:=hd2 bg (by simp)
 by_cases q:s.any (fun q=>frLe q ⟨p.1,p.2⟩)=true
 ·have e:frPut ⟨p.1,p.2⟩ s=s:=by rw [frPut,if_pos q]
  rw [hno q,e]
  exact ⟨rfl,⟨k1,z ij,z if_,z ig,v0,z io,Kd.R_below ir hb⟩,Kept.of_below hb _⟩
 ·obtain ⟨v,hv,rfl⟩:=hyes q
  have y:=fun {b:Nat} {t:TypeId} {u:Value} (h:Boxed W b t u) (d:b≠bo)=>boxed_set (u:=v) (z h) d
  refine ⟨rfl,⟨below_set k1 hl.2,y ij dj,y if_ df,y ig dg,v,Boxed.set _ (z io),?_⟩,Kept.setCell (Kept.of_below hb _) (.inl hl.1) _⟩
  have h1:=Kd.R_bound hv
  exact Kd.R_far (Kd.R_lower (Kd.R_mono h1 (fun k_ hk_=>show hi≤k_ by have:=hk_.2.1;omega)) hW) (fun k_ hk_ e_=>by have e2:k_=bo:=e_;omega) _
set_option maxHeartbeats 8000000 in
set_option maxRecDepth 100000 in
theorem impl_frontOf.calls (k:Nat) (A0:Option Addr) (c0:Nat) (l0:List S47) (a1 a2:Int) (r:List S45) (w:World) (hr0:Kd.C k47 w A0 l0.length l0) (hc0:l0.length≤c0) (h:impl_frontOf.f k l0 a1 a2=some r) :
  Calls Try.prog 82 #[.slice A0 l0.length c0,.int .i64 a1,.int .i64 a2] w fun e w'=>∃ v0_:Value,e=.returned (v0_)∧Kd.R k45 45 w' w.heap.size (fun _=>True) v0_ r∧Below w.heap.size w w':=by
 unfold impl_frontOf.f at h
 have HR0:=Aside0.mk hr0
 have HC0:=Aside0.mk hc0
 have H4:=Aside0.mk h
 have HB:=Aside0.mk (Below.refl w.heap.size w)
 clear hr0 hc0 h
 obtain ⟨W0,hW0⟩:∃ W0,W0=(((w.alloc (.cells #[.slice A0 l0.length c0] 27)).alloc (.cells #[.int .i64 a1] 3)).alloc (.cells #[.int .i64 a2] 3)).alloc (.cells #[.slice none 0 0] 36):=⟨_,rfl⟩
 have Yj:Boxed W0 (w.heap.size) 27 (.slice A0 l0.length c0):=by rw [hW0];exact (((boxed_alloc rfl).alloc _).alloc _).alloc _
 have Yf:Boxed W0 (w.heap.size + 1) 3 (.int .i64 a1):=by rw [hW0];exact ((boxed_alloc (by simp only [alloc_size])).alloc _).alloc _
 have Yg:Boxed W0 (w.heap.size + 1 + 1) 3 (.int .i64 a2):=by rw [hW0];exact (boxed_alloc (by simp only [alloc_size])).alloc _
 have U1:Boxed W0 (w.heap.size + 1 + 1 + 1) 36 (.slice none 0 0):=by rw [hW0];exact boxed_alloc (by simp only [alloc_size])
 have hb9:Below w.heap.size w W0:=by rw [hW0];exact below_alloc (below_alloc (below_alloc (below_alloc HB.out _) _) _) _
 have HLT:Aside0 (W0.heap.size=w.heap.size + 1 + 1 + 1 + 1):=⟨by rw [hW0];simp only [alloc_size]⟩
 have cj:=Yj.cell
 have Z:=Aside0.mk (show Below w.heap.size w W0∧Boxed W0 (w.heap.size) 27 (.slice A0 l0.length c0)∧Boxed W0 (w.heap.size + 1) 3 (.int .i64 a1)∧Boxed W0 (w.heap.size + 1 + 1) 3 (.int .i64 a2)∧Boxed W0 (w.heap.size + 1 + 1 + 1) 36 (.slice none 0 0) from ⟨hb9,Yj,Yf,Yg,U1⟩)
 have HW0:=Aside0.mk hW0
 rw [hW0] at cj
 clear U1 Yj Yf Yg hb9 hW0
 go_enter Try.func82,Try.ntmps82
 go_wp2_with (fail)
 rw [←HW0.out]
 refine (impl_eachOrder.calls (impl_frontOf.step l0 a1 a2) 126 ?eg #[.pointer (some ⟨w.heap.size,0,none⟩),.pointer (some ⟨w.heap.size + 1,0,none⟩),.pointer (some ⟨w.heap.size + 1 + 1,0,none⟩),.pointer (some ⟨w.heap.size + 1 + 1 + 1,0,none⟩)] W0 (fun hi_ s_ W_=>impl_frontOf.inv w l0 A0 c0 a1 a2 (w.heap.size) (w.heap.size + 1) (w.heap.size + 1 + 1) (w.heap.size + 1 + 1 + 1) hi_ s_ W_) k _ [] r ?init ?move ?step H4.out).mono ?_
 case eg=>intro args w;go_simp
 case init=>
  intro W_ hW_
  have hl:=HLT.out
  obtain ⟨z1,z2,z3,z4,z8⟩:=Z.out
  exact ⟨z1.trans (hW_.mono (by omega)),(hW_.block _ (by omega)).trans z2,(hW_.block _ (by omega)).trans z3,(hW_.block _ (by omega)).trans z4,_,(hW_.block _ (by omega)).trans z8,Kd.R_nil _ _ _ _ _⟩
 case move=>intro hi_ s_ W_ W2_ hle_ hi2_ hb_ hk_;exact impl_frontOf.inv_move hi2_ hb_ (by have:=HLT.out;omega) (by have:=HLT.out;omega) hk_
 case step=>intro hi_ k_ s_ s2_ W_ A_ c_ l_ hle_ hW_ hi2_ hC_ hc_ hs_;exact impl_frontOf.tell hi2_ HR0.out HC0.out (by have:=HLT.out;simp only [List.mem_cons,List.not_mem_nil,or_false];omega) (by have:=HLT.out;omega) hle_ hW_ hC_ hc_ hs_
 rintro e w9 ⟨rfl,hi_,hle_,_,hz⟩
 dsimp only
 obtain ⟨z1,z2,z3,z4,v9,z8,z9⟩:=hz
 obtain ⟨A9,c9,e9⟩:=Kd.R_slice z9
 subst e9
 have cf:=z8.cell
 have HB9:=Aside0.mk z1
 have HO9:=Aside0.mk (Kd.R_lower (Kd.R_mono z9 (fun _ _=>trivial) (ok':=fun _=>True)) (show w.heap.size≤hi_ by have:=HLT.out;omega))
 clear z1 z2 z3 z4 z8 z9 Z HLT cj hle_ HW0
 go_wp2
 go_ret
 exact ⟨_,rfl,by (with_reducible repeat (first|apply Kd.R_alloc|apply Kd.R_drewN|apply Kd.R_drew));exact HO9.out,by repeat (first|exact HB9.out|apply below_alloc|apply pw_below_drewN|apply below_drew1)⟩

end Go.Proofs.Ytplbabjigikgjaa.XFnExactSupportedPoints
-- minified
