import Derived.Test.YtndcbfifmafcoaaXFnTailsFirstx0
namespace Go.Proofs.Ytndcbfifmafcoaa.XFnTailsFirst
open Go.RowKit Go.Proofs.YtndcbfifmafcoaaW.PrintWords Go.Proofs.YtndcbfifmafcoaaW.PrintLast Go.Proofs.YtndcbfifmafcoaaW.PrintMore
set_option linter.unusedVariables false
set_option linter.unusedSimpArgs false
theorem rd_int {l:List Int} {i:Int} (h0:0<=i) (h1:i<(l.length:Int)):rd l i=l[i.toNat]'(by omega):=by simp [rd,show i.toNat<l.length by omega]
theorem R_splice {e base g n cap off:Nat} {ok:Nat->Prop} {W W':World} {xs ys:List Int} {cur:Array Value} (h:(Kd.int .i64).R e W base ok (.slice (some ⟨g,0,none⟩) n cap) xs) (hg:W.heap[g]?=some (.cells cur e (0,0))) (hfit:off + ys.length<=xs.length)
  (hg':W'.heap[g]?=some (.cells (splice cur.toList off (ys.map fun y=>Value.int .i64 y)).toArray e (0,0))):(Kd.int .i64).R e W' base ok (.slice (some ⟨g,0,none⟩) n cap) (splice xs off ys):=by
 have hok:=h.1;obtain ⟨rfl,_⟩:=Kd.R_reads' h;obtain ⟨hl,hv⟩:=Kd.own_of_R h;rcases hv with ⟨hv,_⟩ | ⟨g2,cap2,cur2,hv,hb,hc,hn,hm,hs,ht⟩
 ·cases hv
 ·injection hv with ha hb2 hc2
  injection ha with ha
  injection ha with ha
  subst ha;subst hc2;rw [hg] at hc;injection hc with hc
  injection hc with hc
  subst hc;have hL:(splice xs off ys).length=xs.length:=length_splice xs off ys hfit;have hcl:cur.toList.length=cap:=by simpa using hs
  have hfit2:off + (ys.map fun y=>Value.int .i64 y).length<=cur.toList.length:=by simp;omega
  refine Kd.R_of_own ?_ hok;rw [hL];refine ⟨by simp [encs,hL],.inr ⟨g,cap,_,rfl,hb,hg',hn,hm,?_,?_⟩⟩
  ·simp only [List.size_toArray];rw [length_splice _ _ _ hfit2,hcl];omega
  ·have ht':xs.map (fun y=>Value.int .i64 y)=cur.toList.take xs.length:=by simpa [encs] using ht.symm
   have l1:(cur.toList.take off).length=off:=by simp;omega
   have l2:(ys.map fun y=>Value.int .i64 y).length=ys.length:=by simp
   simp only [Nat.mul_one,splice,encs,List.map_append,List.map_take,List.map_drop,ht',l2];rw [List.take_append,l1,List.take_append,l2,List.take_of_length_le (by omega),List.take_of_length_le (l:=ys.map fun y=>Value.int .i64 y) (by omega),List.take_take,Nat.min_eq_left (by omega),List.drop_take,Nat.sub_sub]
theorem sb_cells {e g n cap base:Nat} {ok:Nat->Prop} {W:World} {xs:List Int} (h:(Kd.int .i64).R e W base ok (.slice (some ⟨g,0,none⟩) n cap) xs) (k j:Nat) (y:Int) (hj:xs[k + j]?=some y):W.cell? ⟨g,k + j,none⟩=some (.int .i64 y):=by
 obtain ⟨rfl,_⟩:=Kd.R_reads' h;obtain ⟨hlt,hy⟩:=List.getElem?_eq_some_iff.1 hj;have h2:=(Kd.R_cell (0:Int) h ((k + j:Nat):Int) (by omega) (by omega)).1;rw [Int.toNat_natCast] at h2;rw [h2];simp only [rdOf,Int.toNat_natCast];rw [List.getD_eq_getElem?_getD,hj];rfl
theorem sb_size {e g n cap base:Nat} {ok:Nat->Prop} {W:World} {xs:List Int} {cl:Array Value} (h:(Kd.int .i64).R e W base ok (.slice (some ⟨g,0,none⟩) n cap) xs) (hg:W.heap[g]?=some (.cells cl e (0,0))):cl.size=cap:=by
 obtain ⟨rfl,_⟩:=Kd.R_reads' h;obtain ⟨hl,hv⟩:=Kd.own_of_R h;rcases hv with ⟨hv,_⟩ | ⟨g2,cap2,cur2,hv,hb,hc,hn,hm,hs,ht⟩
 ·cases hv
 ·injection hv with ha hb2 hc2
  injection ha with ha
  injection ha with ha
  subst ha;subst hc2;rw [hg] at hc;injection hc with hc
  injection hc with hc
  subst hc;omega
theorem sb_hpos {e g c:Nat} {base:Nat} {ok:Nat->Prop} {W:World} {x5:List Int} {k q:Int} {cs:List Value} {DA DB:Option Addr} (h:(Kd.int .i64).R e W base ok (.slice (some ⟨g,0,none⟩) (x5++[0]).length c) (x5++[0])) (hk:0<=k) (hq:q=k + 1) (hc:x5.length + 1<=c)
  (hcs:cs=(x5.drop k.toNat).map fun y=>Value.int .i64 y) (hA:DA=(if c=q.toNat then some (⟨g,0,none⟩:Addr) else (some (⟨g,0,none⟩:Addr)).map (·.add (q.toNat * 1)))) (hB:DB=(if c=k.toNat then some (⟨g,0,none⟩:Addr) else (some (⟨g,0,none⟩:Addr)).map (·.add (k.toNat * 1)))) :
  0<cs.length->DA=some ⟨g,q.toNat,none⟩/\∃ ad,DB=some ad/\∀ j v,cs[j]?=some v->W.cell? (ad.add j)=some v:=by
 intro hpos;subst hcs;simp at hpos;subst hA;subst hB;rw [if_neg (by omega),if_neg (by omega)];refine ⟨by simp [Addr.add];omega,_,rfl,?_⟩;intro j v hv;simp only [List.getElem?_map,Option.map_eq_some_iff,List.getElem?_drop] at hv;obtain ⟨y,hy,rfl⟩:=hv;have h3:=sb_cells h k.toNat j y (by rw [List.getElem?_append_left (List.getElem?_eq_some_iff.1 hy).1];exact hy);have e1:((⟨g,0,none⟩:Addr).add (k.toNat * 1)).add j=⟨g,k.toNat + j,none⟩:=by
  unfold Addr.add;rw [Nat.mul_one];generalize k.toNat=kk;cases kk <;> cases j <;> simp
 rw [e1];exact h3
theorem sb_set {x5:List Int} {k:Int} {x:Int} (h0:0<=k) (h1:k<=x5.length):(splice (x5++[0]) (k + 1).toNat (x5.drop k.toNat)).set k.toNat x=x5.take k.toNat++x::x5.drop k.toNat:=by
 obtain ⟨n,rfl⟩:=Int.eq_ofNat_of_zero_le h0;have hn:n<=x5.length:=by omega
 rw [show ((n:Int) + 1).toNat=n + 1 by omega,Int.toNat_natCast];unfold splice
 apply List.ext_getElem?
 intro m;rw [List.getElem?_set];rcases Nat.lt_trichotomy m n with h|h|h
 ·rw [if_neg (by omega),List.getElem?_append_left (by simp;omega),List.getElem?_append_left (by simp;omega),List.getElem?_take,List.getElem?_take,if_pos (by omega),if_pos h,List.getElem?_append_left (by omega)]
 ·subst h;rw [if_pos rfl,if_pos (by simp;omega),List.getElem?_append_right (by simp;omega),show m - (x5.take m).length=0 by simp;omega]
  rfl
 ·rw [if_neg (by omega),List.getElem?_append_right (l₁:=x5.take n) (by simp;omega),show m - (x5.take n).length=(m - n - 1) + 1 by simp;omega,List.getElem?_cons_succ,List.getElem?_append_right (by simp;omega),show m - (List.take (n + 1) (x5++[0])).length=m - n - 1 by simp;omega];by_cases h2:m - n - 1<(x5.drop n).length
  ·rw [List.getElem?_append_left h2]
  ·have h3:=h2;simp at h3;rw [List.getElem?_append_right (by omega),List.drop_of_length_le (by simp;omega),List.getElem?_eq_none (l:=x5.drop n) (by omega)];simp
theorem sb_hn {x5 ys:List Int} {k q:Int} {cs:List Value} (hk:0<=k) (hk2:k<=x5.length) (hq:q=k + 1) (hcs:cs=ys.map fun y=>Value.int .i64 y) (hys:ys=x5.drop k.toNat):cs.length=Nat.min (x5.length + 1 - k.toNat) (x5.length + 1 - q.toNat):=by
 subst hcs;subst hys;subst hq;rw [List.length_map,List.length_drop]
 show _=min (x5.length + 1 - k.toNat) (x5.length + 1 - (k + 1).toNat)
 omega
theorem sb_fit {x5 ys:List Int} {k q:Int} {cs cl:List Value} {c:Nat} (hk:0<=k) (hk2:k<=x5.length) (hq:q=k + 1) (hcs:cs=ys.map fun y=>Value.int .i64 y) (hys:ys=x5.drop k.toNat) (hc:x5.length + 1<=c) (hl:cl.length=c):q.toNat + cs.length<=cl.length:=by
 subst hcs;subst hys;subst hq;rw [List.length_map,List.length_drop];omega
theorem sb_one {ys:List Int} {cs:List Value} (hcs:cs=ys.map fun y=>Value.int .i64 y):∀ v ∈ cs,v.oneCell'=true:=by
 subst hcs;simp [Value.oneCell']
theorem boxed_below {W W1:World} {B:Nat} {t:TypeId} {v:Value} (h:Boxed W B t v) (hb:Below W.heap.size W W1):Boxed W1 B t v:=(hb.block B h.lt).trans h
theorem boxed_set {W:World} {B b:Nat} {t:TypeId} {v u:Value} (h:Boxed W B t v) (hne:B≠b):Boxed (W.setCell ⟨b,0,none⟩ u) B t v:=h.kept (grownBy_setCell' W b u) (by intro e_;exact hne (oi_ e_))
theorem boxed_alloc {W:World} {b:Nat} {t:TypeId} {v:Value} (h:b=W.heap.size):Boxed (W.alloc (.cells #[v] t)) b t v:=by subst h;exact Boxed.new W t v
theorem alloc_size (W:World) (o:Obj):(W.alloc o).heap.size=W.heap.size + 1:=by show (W.heap.push o).size=_;exact Array.size_push _
