/- Proved here: what functions that the law FnExactSupportedPoints reaches answer (frontP, permsAll, laws_heldIntA2S, spec_l11Put, frontBoth, evGoBind2, valBd, supBoth, core_SupportedPoints). Conditions: those that each theorem names. -/
import Derived.Test.YtplbabjigikgjaaQFnExactSupportedPointsa
set_option linter.unusedVariables false
set_option linter.unusedSimpArgs false
namespace Go.Proofs.Ytplbabjigikgjaa.Pure
open Go.RowKit Go.Proofs.Ytplbabjigikgjaa.XFnExactSupportedPoints Go.Proofs.YtplbabjigikgjaaW.PrintWords Go.Proofs.YtplbabjigikgjaaW.PrintLast

def insL (p:A2):List A2→List A2
 | []=>[p]
 | q::l=>if q.f0>p.f0 then p::q::l else q::insL p l
def FrS (l:List A2):Prop:=l.Pairwise fun a b=>a.f0<b.f0
theorem insL_at (p:A2):∀ {l:List A2},FrS l→∃ j,j≤l.length∧insL p l=l.take j++p::l.drop j∧(∀ i (h:i<l.length),i<j→l[i].f0≤p.f0)∧(∀ i (h:i<l.length),j≤i→p.f0<l[i].f0)
 | [],_=>⟨0,Nat.le_refl _,rfl,fun i h=>by simp at h,fun i h=>by simp at h⟩
 | q::l,hs=>by
  have hs':=List.pairwise_cons.1 hs
  by_cases c:q.f0>p.f0
  ·refine ⟨0,Nat.zero_le _,by simp [insL,c],fun i h hi=>absurd hi (by omega),fun i h _=>?_⟩
   cases i with
   | zero=>exact c
   | succ i=>
    have:=hs'.1 _ (List.getElem_mem (show i<l.length by simpa using h))
    simp only [List.getElem_cons_succ];omega
  ·obtain ⟨j,h1,h2,h3,h4⟩:=insL_at p hs'.2
   refine ⟨j + 1,by simp;omega,by simp [insL,c,h2],fun i h hi=>?_,fun i h hi=>?_⟩
   ·cases i with
    | zero=>simp only [List.getElem_cons_zero];omega
    | succ i=>exact h3 i (by simpa using h) (by omega)
   ·cases i with
    | zero=>omega
    | succ i=>exact h4 i (by simpa using h) (by omega)
theorem frPos_at (p:A2) (l:List A2) (j:Nat) (h1:∀ i (h:i<l.length),i<j→l[i].f0≤p.f0) (h2:∀ i (h:i<l.length),j≤i→p.f0<l[i].f0):∀ k,j≤k→k≤l.length→frPos p l k=j
 | 0,hj,_=>by rw [frPos];omega
 | k + 1,hj,hk=>by
  rw [frPos,rdA2 (show k<l.length by omega)]
  by_cases e:j=k + 1
  ·rw [if_neg (by have:=h1 k (by omega) (by omega);omega)];exact e.symm
  ·rw [if_pos (h2 k (by omega) (by omega))]
   exact frPos_at p l j h1 h2 k (by omega) (by omega)
theorem frIns_eq (p:A2) {l:List A2} (hs:FrS l):frIns p l=insL p l:=by
 obtain ⟨j,h1,h2,h3,h4⟩:=insL_at p hs
 rw [frIns,frPos_at p l j h3 h4 l.length h1 (Nat.le_refl _),h2]
theorem insL_mem (p:A2):∀ (l:List A2) (q:A2),q ∈ insL p l ↔ q=p∨q ∈ l
 | [],q=>by simp [insL]
 | a::l,q=>by
  unfold insL
  split
  ·simp
  ·rw [List.mem_cons,insL_mem p l q,List.mem_cons]
   constructor
   ·rintro (h|h|h)
    ·exact .inr (.inl h)
    ·exact .inl h
    ·exact .inr (.inr h)
   ·rintro (h|h|h)
    ·exact .inr (.inl h)
    ·exact .inl h
    ·exact .inr (.inr h)
theorem insL_sorted (p:A2):∀ (l:List A2),FrS l→(∀ q ∈ l,q.f0≠p.f0)→FrS (insL p l)
 | [],_,_=>List.pairwise_singleton _ _
 | a::l,hs,hn=>by
  have hs':=List.pairwise_cons.1 hs
  unfold insL
  split
  ·rename_i c
   refine List.pairwise_cons.2 ⟨fun q hq=>?_,hs⟩
   rcases List.mem_cons.1 hq with rfl|hq
   ·exact c
   ·have:=hs'.1 q hq;omega
  ·rename_i c
   refine List.pairwise_cons.2 ⟨fun q hq=>?_,insL_sorted p l hs'.2 fun q hq=>hn q (List.mem_cons_of_mem _ hq)⟩
   rcases (insL_mem p l q).1 hq with rfl|hq
   ·have:=hn a List.mem_cons_self;omega
   ·exact hs'.1 q hq
theorem frLe_iff {q p:A2} : frLe q p=true ↔ q.f0≤p.f0∧q.f1≤p.f1:=by unfold frLe;simp
theorem frPut_no {p:A2} {l:List A2} (hs:FrS l) (h:¬ l.any (fun q=>frLe q p)=true):frPut p l=insL p (l.filter fun q=> !frLe p q):=by
 rw [frPut,if_neg h,frIns_eq p (List.Pairwise.filter _ hs)]
theorem frPut_sorted {p:A2} {l:List A2} (hs:FrS l):FrS (frPut p l):=by
 by_cases h:l.any (fun q=>frLe q p)=true
 ·rw [frPut,if_pos h];exact hs
 ·rw [frPut_no hs h]
  refine insL_sorted p _ (List.Pairwise.filter _ hs) fun q hq e=>?_
  have h1:=List.mem_filter.1 hq
  have h2:¬ frLe q p=true:=fun h2=>h (List.any_eq_true.2 ⟨q,h1.1,h2⟩)
  have h3:¬ frLe p q=true:=by have:=h1.2;simpa using this
  rw [frLe_iff] at h2 h3
  by_cases c:q.f1≤p.f1
  ·exact h2 ⟨by omega,c⟩
  ·exact h3 ⟨by omega,by omega⟩
theorem frPut_mem {p q:A2} {l:List A2} (hs:FrS l) (h:q ∈ frPut p l):q=p∨q ∈ l:=by
 by_cases c:l.any (fun q=>frLe q p)=true
 ·rw [frPut,if_pos c] at h;exact .inr h
 ·rw [frPut_no hs c,insL_mem] at h
  rcases h with h|h
  ·exact .inl h
  ·exact .inr (List.mem_filter.1 h).1
def factN:Nat→Nat
 | 0=>1
 | n + 1=>(n + 1) * factN n
theorem perms_len:∀ (n:Nat) (L:List Int),L.length=n→(perms n L).length=factN n
 | 0,L,h=>by simp [perms,factN]
 | n + 1,L,h=>by
  have key:∀ M:List Int,(∀ x ∈ M,x ∈ L)→(M.flatMap fun x=>(perms n (L.erase x)).map fun l=>x::l).length=M.length * factN n:=by
   intro M
   induction M with
   | nil=>intro _;simp
   | cons x M ih=>
    intro hM
    rw [List.flatMap_cons,List.length_append,List.length_map,perms_len n (L.erase x) (by rw [List.length_erase_of_mem (hM x List.mem_cons_self)];omega),ih fun y hy=>hM y (List.mem_cons_of_mem _ hy),List.length_cons,Nat.succ_mul]
    omega
  have:=key L (fun x hx=>hx)
  rw [h] at this
  rw [factN,←this]
  rfl
theorem factN_le:∀ n,n≤8→factN n≤40320:=by decide
/-- What a front holds: points of orders, by the first value. -/
def FrQ (pt:List Int→A2) (n:Nat) (s:List A2):Prop:=FrS s∧∀ q ∈ s,∃ l ∈ perms n (nums_to n),pt l=q
theorem FrQ.len {pt:List Int→A2} {n:Nat} {s:List A2} (h:FrQ pt n s) (hn:n≤8):s.length≤40320:=by
 have h1:(s.map fun q=>q.f0).Nodup:=by
  rw [List.nodup_iff_pairwise_ne,List.pairwise_map]
  exact h.1.imp fun hlt e=>by omega
 have h2:=nodup_sub h1 (s:=(perms n (nums_to n)).map fun l=>(pt l).f0) (fun x hx=>by
  obtain ⟨q,hq,rfl⟩:=List.mem_map.1 hx
  obtain ⟨l,hl,e⟩:=h.2 q hq
  exact List.mem_map.2 ⟨l,hl,by rw [e]⟩)
 rw [List.length_map,List.length_map,perms_len n _ (nums_to_length n)] at h2
 have:=factN_le n hn
 omega
theorem FrQ.put {pt:List Int→A2} {n:Nat} {s:List A2} (h:FrQ pt n s) {l:List Int} (hl:l ∈ perms n (nums_to n)):FrQ pt n (frPut (pt l) s):=by
 refine ⟨frPut_sorted h.1,fun q hq=>?_⟩
 rcases frPut_mem h.1 hq with rfl|hq
 ·exact ⟨l,hl,rfl⟩
 ·exact h.2 q hq

theorem perms_all:∀ (n:Nat) (L l:List Int),L.length=n→L.Nodup→l.Perm L→l ∈ perms n L
 | 0,L,l,hL,_,hp=>by
  obtain rfl:=List.eq_nil_of_length_eq_zero hL
  have:=hp.eq_nil
  subst this
  simp [perms]
 | n + 1,L,l,hL,hn,hp=>by
  have hlen:=hp.length_eq
  cases l with
  | nil=>simp at hlen;omega
  | cons x t=>
   have hx:x ∈ L:=hp.subset List.mem_cons_self
   have ht:t.Perm (L.erase x):=by
    have h2:=hp.erase x
    rwa [List.erase_cons_head] at h2
   have:=perms_all n (L.erase x) t (by rw [List.length_erase_of_mem hx];omega) (hn.erase x) ht
   show x::t ∈ L.flatMap fun x=>(perms n (L.erase x)).map fun l=>x::l
   exact List.mem_flatMap.2 ⟨x,hx,List.mem_map.2 ⟨t,this,rfl⟩⟩
theorem count_nodup:∀ {l:List Int},l.Nodup→∀ a,l.count a=if a ∈ l then 1 else 0
 | [],_,a=>by simp
 | b::l,h,a=>by
  have h':=List.nodup_cons.1 h
  rw [List.count_cons,count_nodup h'.2]
  by_cases e:b=a
  ·subst e
   simp [h'.1]
  ·have e':¬ a=b:=fun h2=>e h2.symm
   simp [e,e']
theorem isPerm_perms {n:Nat} {l:List Int} (h:IsPerm n l):l ∈ perms n (nums_to n):=by
 refine perms_all n _ l (nums_to_length n) (nums_to_nodup n) ?_
 have h1:l.Perm (nums_to n):=by
  rw [List.perm_iff_count]
  intro a
  have c1:=count_nodup h.2.1 a
  have c2:=count_nodup (nums_to_nodup n) a
  rw [c1,c2]
  have:a ∈ l ↔ a ∈ nums_to n:=⟨fun h2=>mem_nums_to.2 (h.2.2 a h2),fun h2=>h.all a (mem_nums_to.1 h2).1 (mem_nums_to.1 h2).2⟩
  simp [this]
 exact h1

def a2M (a:Int):Nat→List A2
 | 0=>[]
 | n + 1=>⟨a,a + 1⟩::a2M (a + 2) n
theorem a2M_len:∀ (n:Nat) (a:Int),(a2M a n).length=n
 | 0,_=>rfl
 | n + 1,a=>by rw [a2M,List.length_cons,a2M_len n]
theorem a2M_snoc:∀ (n:Nat) (a:Int),a2M a (n + 1)=a2M a n++[⟨a + 2 * n,a + 2 * n + 1⟩]
 | 0,a=>by simp [a2M]
 | n + 1,a=>by
  rw [a2M,a2M_snoc n,a2M,List.cons_append]
  have e:a + 2 + 2 * (n:Int)=a + 2 * ((n + 1:Nat):Int):=by omega
  rw [e]
theorem a2M_get:∀ (n:Nat) (a:Int) (i:Nat) (h:i<(a2M a n).length),(a2M a n)[i]=⟨a + 2 * i,a + 2 * i + 1⟩
 | 0,_,i,h=>by simp [a2M] at h
 | n + 1,a,0,h=>by simp [a2M]
 | n + 1,a,i + 1,h=>by
  simp only [a2M,List.getElem_cons_succ]
  rw [a2M_get n]
  congr 1
  ·simp;omega
  ·simp;omega
theorem laws_markIntA2S.ev (l:List A2) (a:Int) (h0:0≤a) (h1:a≤1000000000000000) (hl:l.length≤1048576):Ev (fun k=>laws_markIntA2S.f k l a) (a + 2 * l.length,a2M a l.length):=by
 have key:=rev_ind (P:=fun i=>Ev (fun k=>laws_markIntA2S.l0 k (a2M a i++l.drop i) (a + 2 * i) (i:Int)) (a + 2 * l.length,a2M a l.length)) l.length ?_ ?_ 0 (Nat.zero_le _)
 ·simpa [laws_markIntA2S.f,a2M,hl] using key
 ·refine ev_stop fun k=>?_
  have hlen:(a2M a l.length++l.drop l.length).length=l.length:=by simp [a2M_len]
  simp only [laws_markIntA2S.l0];rw [if_neg (by rw [hlen];omega),if_neg (by rw [hlen];omega)];simp
 ·intro i hi ih
  have hlen:(a2M a i++l.drop i).length=l.length:=by simp [a2M_len];omega
  have w1:wrap64 (a + 2 * i + 1)=a + 2 * i + 1:=wr (by omega) (by omega)
  have w2:wrap64 (a + 2 * i + 1 + 1)=a + 2 * ((i + 1:Nat):Int):=by rw [wr (by omega) (by omega)];omega
  refine ev_go _ (fun k=>?_) ih
  simp only [laws_markIntA2S.l0];rw [if_pos (by rw [hlen];omega),w1,w2,wr1 (by omega)]
  congr 1
  rw [Int.toNat_natCast,drop_cons hi,List.set_append_right _ _ (by rw [a2M_len];exact Nat.le_refl _),a2M_len,Nat.sub_self,List.set_cons_zero,a2M_snoc,List.append_assoc]
  rfl
theorem laws_heldIntA2S.ev (n:Nat) (a:Int) (h0:0≤a) (h1:a≤1000000000000000) (hl:n≤1048576):Ev (fun k=>laws_heldIntA2S.f k (a2M a n) a) (a + 2 * n):=by
 have key:=rev_ind (P:=fun i=>Ev (fun k=>laws_heldIntA2S.l0 k (a2M a n) (a + 2 * i) (i:Int)) (a + 2 * n)) n ?_ ?_ 0 (Nat.zero_le _)
 ·simpa [laws_heldIntA2S.f,a2M_len,hl] using key
 ·refine ev_stop fun k=>?_
  simp only [laws_heldIntA2S.l0];rw [if_neg (by rw [a2M_len];omega),if_neg (by rw [a2M_len];omega)]
 ·intro i hi ih
  have hi':i<(a2M a n).length:=by rw [a2M_len];exact hi
  have w1:wrap64 (a + 2 * i + 1)=a + 2 * i + 1:=wr (by omega) (by omega)
  have w2:wrap64 (a + 2 * i + 1 + 1)=a + 2 * ((i + 1:Nat):Int):=by rw [wr (by omega) (by omega)];omega
  refine ev_go _ (fun k=>?_) ih
  simp only [laws_heldIntA2S.l0];rw [if_pos (by rw [a2M_len];omega),rdA2 hi',a2M_get]
  simp only [if_true];rw [w1,if_pos rfl,w2,wr1 (by omega)]
theorem laws_markIntA2S.held (l:List A2) (hl:l.length≤1048576):∃ n l',Ev (fun k=>laws_markIntA2S.f k l 1) (n,l')∧Ev (fun k=>laws_heldIntA2S.f k l' 1) n∧((n<0)=False):=
 ⟨_,_,laws_markIntA2S.ev l 1 (by omega) (by omega) hl,laws_heldIntA2S.ev l.length 1 (by omega) (by omega) hl,eq_false (by omega)⟩

theorem domS_ne {a b c d:Int} (h:¬ (a=c∧b=d)):spec_l11Dominates.f a b c d=some (decide (a≤c) && decide (b≤d)):=by
 unfold spec_l11Dominates.f
 by_cases h3:a≤c
 ·by_cases h4:b≤d
  ·by_cases h1:a=c
   ·have h2:b≠d:=fun e=>h ⟨h1,e⟩
    simp [h3,h4,h1,h2]
   ·simp [h3,h4,h1]
  ·simp [h3,h4]
 ·simp [h3]
theorem spec_l11Put.ev (l:List A2) (p:A2) (hl:l.length≤1000000) (hs:FrS l):Ev (fun k=>spec_l11Put.f k l p.f0 p.f1) (frPut p l):=by
 obtain ⟨p0,p1⟩:=p
 unfold spec_l11Put.f
  -- the second loop
 have second:∀ out:List A2,out.length≤1000000→(∀ q ∈ l,frLe q ⟨p0,p1⟩=false)→Ev (fun k=>spec_l11Put.l1 k l out false 0 p0 p1) (out++insL ⟨p0,p1⟩ (l.filter fun q=> !frLe ⟨p0,p1⟩ q)):=by
  intro out hout hno
  have key:=rev_ind (P:=fun i=>∀ out:List A2,out.length≤1000000 + 2 * i→Ev (fun k=>spec_l11Put.l1 k l out false (i:Int) p0 p1) (out++insL ⟨p0,p1⟩ ((l.drop i).filter fun q=> !frLe ⟨p0,p1⟩ q))∧Ev (fun k=>spec_l11Put.l1 k l out true (i:Int) p0 p1) (out++((l.drop i).filter fun q=> !frLe ⟨p0,p1⟩ q))) l.length ?_ ?_ 0 (Nat.zero_le _) out (by omega)
  ·have:=key.1;rwa [List.drop_zero] at this
  ·intro out ho
   rw [List.drop_of_length_le (Nat.le_refl _)]
   refine ⟨ev_stop fun k=>?_,ev_stop fun k=>?_⟩
   ·simp only [spec_l11Put.l1];rw [if_neg (by omega),if_neg (by simp),if_pos (by omega)];rfl
   ·simp only [spec_l11Put.l1];rw [if_neg (by omega)];simp
  ·intro i hi ih out ho
   have hq:=hno _ (List.getElem_mem hi)
   rw [drop_cons hi]
   obtain ⟨q,hqe⟩:∃ q,q=l[i]:=⟨_,rfl⟩
   rw [←hqe] at hq ⊢
   have hrd:rd_T45 l (i:Int)=q:=by rw [rdA2 hi,hqe]
   have hne:¬ (p0=q.f0∧p1=q.f1):=fun h=>by
    have:frLe q ⟨p0,p1⟩=true:=frLe_iff.2 ⟨by rw [←h.1];exact Int.le_refl _,by rw [←h.2];exact Int.le_refl _⟩
    rw [this] at hq;cases hq
   have hd:spec_l11Dominates.f p0 p1 q.f0 q.f1=some (frLe ⟨p0,p1⟩ q):=domS_ne hne
   by_cases hle:frLe ⟨p0,p1⟩ q=true
   ·rw [List.filter_cons_of_neg (by rw [hle];simp)]
    have ih2:=ih out (by omega)
    refine ⟨ev_go _ (fun k=>?_) ih2.1,ev_go _ (fun k=>?_) ih2.2⟩
    ·simp only [spec_l11Put.l1];rw [if_pos (by omega),if_pos (by omega),hrd,hd,Option.bind_some,if_pos hle,wr1 (by omega)]
    ·simp only [spec_l11Put.l1];rw [if_pos (by omega),if_pos (by omega),hrd,hd,Option.bind_some,if_pos hle,wr1 (by omega)]
   ·have hf:frLe ⟨p0,p1⟩ q=false:=by simpa using hle
    rw [List.filter_cons_of_pos (by rw [hf];rfl)]
    have eq_:(⟨q.f0,q.f1⟩:A2)=q:=rfl
    refine ⟨?_,?_⟩
    ·by_cases hg:q.f0>p0
     ·have ih2:=(ih (out++[⟨p0,p1⟩]++[q]) (by simp;omega)).2
      rw [insL,if_pos hg]
      rw [List.append_assoc,List.append_assoc] at ih2
      refine ev_go _ (fun k=>?_) ih2
      simp only [spec_l11Put.l1];rw [if_pos (by omega),if_pos (by omega),hrd,hd,Option.bind_some,if_neg hle,if_neg (by simp),if_pos hg,if_pos (by omega),Option.bind_some,if_pos (by simp;omega),wr1 (by omega),List.append_assoc]
     ·have ih2:=(ih (out++[q]) (by simp;omega)).1
      rw [insL,if_neg hg]
      rw [List.append_assoc] at ih2
      refine ev_go _ (fun k=>?_) ih2
      simp only [spec_l11Put.l1];rw [if_pos (by omega),if_pos (by omega),hrd,hd,Option.bind_some,if_neg hle,if_neg (by simp),if_neg hg,if_pos (by omega),wr1 (by omega)]
    ·have ih2:=(ih (out++[q]) (by simp;omega)).2
     rw [List.append_assoc] at ih2
     refine ev_go _ (fun k=>?_) ih2
     simp only [spec_l11Put.l1];rw [if_pos (by omega),if_pos (by omega),hrd,hd,Option.bind_some,if_neg hle];simp only [if_true];rw [if_pos (by omega),wr1 (by omega)]
 have first:=rev_ind (P:=fun i=>(∀ q ∈ l.take i,frLe q ⟨p0,p1⟩=false)→Ev (fun k=>spec_l11Put.l0 k l [] (i:Int) p0 p1) (frPut ⟨p0,p1⟩ l)) l.length ?_ ?_ 0 (Nat.zero_le _) (by simp)
 ·exact first
 ·intro hno
  rw [List.take_of_length_le (Nat.le_refl _)] at hno
  have h:=second [] (by simp) hno
  rw [frPut_no hs (fun h2=>by
   obtain ⟨q,hq,h3⟩:=List.any_eq_true.1 h2
   rw [hno q hq] at h3;cases h3)]
  rw [List.nil_append] at h
  refine ev_go _ (fun k=>?_) h
  simp only [spec_l11Put.l0];rw [if_neg (by omega)]
 ·intro i hi ih hno
  obtain ⟨q,hqe⟩:∃ q,q=l[i]:=⟨_,rfl⟩
  have hrd:rd_T45 l (i:Int)=q:=by rw [rdA2 hi,hqe]
  have hm:q ∈ l:=by rw [hqe];exact List.getElem_mem hi
  by_cases he:q.f0=p0∧q.f1=p1
  ·have ha:l.any (fun q=>frLe q ⟨p0,p1⟩)=true:=List.any_eq_true.2 ⟨q,hm,frLe_iff.2 ⟨by rw [he.1];exact Int.le_refl _,by rw [he.2];exact Int.le_refl _⟩⟩
   rw [frPut,if_pos ha]
   refine ev_stop fun k=>?_
   simp only [spec_l11Put.l0];rw [if_pos (by omega),if_pos (by omega),hrd,if_pos (by simp [he.1,he.2])]
  ·have hd:spec_l11Dominates.f q.f0 q.f1 p0 p1=some (frLe q ⟨p0,p1⟩):=domS_ne he
   have hb:¬ (q.f0 == p0 && (q.f1 == p1))=true:=by
    intro h;simp only [Bool.and_eq_true,beq_iff_eq] at h;exact he h
   by_cases hle:frLe q ⟨p0,p1⟩=true
   ·have ha:l.any (fun q=>frLe q ⟨p0,p1⟩)=true:=List.any_eq_true.2 ⟨q,hm,hle⟩
    rw [frPut,if_pos ha]
    refine ev_stop fun k=>?_
    simp only [spec_l11Put.l0];rw [if_pos (by omega),if_pos (by omega),hrd,if_neg hb,hd,Option.bind_some,if_pos hle]
   ·refine ev_go _ (fun k=>?_) (ih fun x hx=>?_)
    ·simp only [spec_l11Put.l0];rw [if_pos (by omega),if_pos (by omega),hrd,if_neg hb,hd,Option.bind_some,if_neg hle,wr1 (by omega)]
    ·rw [List.take_succ_eq_append_getElem hi,List.mem_append,List.mem_singleton] at hx
     rcases hx with hx|rfl
     ·exact hno x hx
     ·rw [←hqe];simpa using hle

def ptF (jobs:List J) (f g:Int) (l:List Int):A2:=⟨(pointF jobs f g l).1,(pointF jobs f g l).2⟩
def frontF (jobs:List J) (f g:Int):List A2:=(perms jobs.length (nums_to jobs.length)).foldl (fun s l=>frPut (ptF jobs f g l) s) []
theorem spec_l11Try.ev (jobs:List J) (f g:Int) (hj:JobsOk jobs) (hf:Obj8 f) (hg:Obj8 g):Ev (fun k=>spec_l11Try.f k jobs [] f g []) (frontF jobs f g)∧FrQ (ptF jobs f g) jobs.length (frontF jobs f g):=by
 have h8:=hj.1
 have key:=rec_all jobs.length (fun l s=>frPut (ptF jobs f g l) s) (fun s=>FrQ (ptF jobs f g) jobs.length s) (fun k b s=>spec_l11Try.f k jobs b f g s) (fun k b i s=>spec_l11Try.l0 k jobs b f g s i) ?_ ?_ ?_ ?_ ?_ jobs.length [] [] (by simp) (by simp) (by simp) ⟨List.Pairwise.nil,by simp⟩
 ·have e:=rec_start jobs.length (fun l s=>frPut (ptF jobs f g l) s) ([]:List A2)
  rw [e] at key
  exact key
 ·intro b s hb hs
  have hp:=spec_l11Point.ev jobs b f g ⟨hj,hb⟩ hf hg
  have hsl:=hs.len (by omega)
  refine ⟨?_,hs.put (isPerm_perms hb)⟩
  refine ev_go (fun k=>(spec_l11Point.f k jobs b f g).bind fun p=>(spec_l11Put.f k s p.1 p.2).bind fun t=>some t) (fun k=>?_) (ev_bind _ hp (ev_bind _ (spec_l11Put.ev s (ptF jobs f g b) (by omega) hs.1) (Ev.now _)))
  simp only [spec_l11Try.f]
  rw [if_pos (by have:=hb.1;omega)]
 ·intro b s r hb h
  refine ev_go _ (fun k=>?_) h
  simp only [spec_l11Try.f];rw [if_neg (by omega)]
 ·intro b s _
  refine ev_stop fun k=>?_
  simp only [spec_l11Try.l0];rw [if_neg (by omega)]
 ·intro b i s r hb hi hm hr
  refine ev_go (fun k=>(spec_l1Has.f k b (i:Int)).bind fun t=>if t=true then spec_l11Try.l0 k jobs b f g s ((i + 1:Nat):Int) else ((spec_l11Try.f k jobs (b++[(i:Int)]) f g s).bind fun q=>(spec_l11Try.l0 k jobs b f g q ((i + 1:Nat):Int)))) (fun k=>?_) (evB_bind (spec_l1Has.ev b (i:Int) (by omega)) (fun _=>by simp only [if_true];exact hr) (fun hn=>absurd hm hn))
  simp only [spec_l11Try.l0];rw [if_pos (by omega),wr1 (by omega),spec_l1Own.eq b (by omega)]
  simp only [Option.bind_some]
  rw [if_pos (by omega)]
 ·intro b i s s' r hb hi hm h1 h2
  refine ev_go (fun k=>(spec_l1Has.f k b (i:Int)).bind fun t=>if t=true then spec_l11Try.l0 k jobs b f g s ((i + 1:Nat):Int) else ((spec_l11Try.f k jobs (b++[(i:Int)]) f g s).bind fun q=>(spec_l11Try.l0 k jobs b f g q ((i + 1:Nat):Int)))) (fun k=>?_) (evB_bind (spec_l1Has.ev b (i:Int) (by omega)) (fun hn=>absurd hn hm) (fun _=>by simp only [Bool.false_eq_true,if_false];exact ev_bind _ h1 h2))
  simp only [spec_l11Try.l0];rw [if_pos (by omega),wr1 (by omega),spec_l1Own.eq b (by omega)]
  simp only [Option.bind_some]
  rw [if_pos (by omega)]
theorem spec_l11Front.ev (jobs:List J) (f g:Int) (hj:JobsOk jobs) (hf:Obj8 f) (hg:Obj8 g):Ev (fun k=>spec_l11Front.f k jobs f g) (frontF jobs f g):=by
 unfold spec_l11Front.f
 exact ev_bind _ (spec_l11Try.ev jobs f g hj hf hg).1 (Ev.now _)
theorem impl_frontOf.ev (jobs:List J) (f g:Int) (hj:JobsOk jobs):Ev (fun k=>impl_frontOf.f k jobs f g) (frontF jobs f g):=by
 have h8:=hj.1
 unfold impl_frontOf.f
 refine impl_eachOrder.ev (impl_frontOf.step jobs f g) (fun l s=>frPut (ptF jobs f g l) s) (fun s=>FrQ (ptF jobs f g) jobs.length s) jobs.length (by omega) [] (fun l hl s hs=>⟨?_,hs.put (isPerm_perms hl)⟩) ⟨List.Pairwise.nil,by simp⟩
 have hsl:=hs.len (by omega)
 unfold impl_frontOf.step
 simp only [if_pos (show s.length≤1048576 by omega)]
 exact ev_bind _ (impl_pointOf.ev jobs l f g ⟨hj,hl⟩) (Ev.now _)
theorem frontF_len (jobs:List J) (f g:Int) (hj:JobsOk jobs) (hf:Obj8 f) (hg:Obj8 g):(frontF jobs f g).length≤40320:=(spec_l11Try.ev jobs f g hj hf hg).2.len (by have:=hj.1;omega)

theorem ev_go_bind {α β:Type} {g:Nat→Option α} {h:Nat→Option β} {F:Nat→β→Option α} {a:β} {r:α} (e:∀ k,g (k + 1)=(h k).bind (F k)) (ha:Ev h a) (hr:Ev (fun k=>F k a) r):Ev g r:=ev_go _ e (ev_bind a ha hr)

theorem endsF_le (jobs:List J) (hj:∀ j ∈ jobs,0≤j.f0∧j.f0≤50∧0≤j.f2∧j.f2≤500):∀ (l out:List Int) (now B:Int),0≤now→now≤B→500≤B→B + 50 * (l.length:Int)≤1000000000→(∀ x ∈ l,0≤x∧x<jobs.length)→(∀ e ∈ out,e≤B)→∀ e ∈ endsF jobs l out now,e≤B + 50 * (l.length:Int)
 | [],_,_,_,_,_,_,_,_,h=>fun e he=>by have:=h e he;simp;omega
 | x::xs,out,now,B,h0,h1,h2,h3,hx,ho=>by
  simp only [List.length_cons] at h3
  have hx0:=hx x List.mem_cons_self
  have hr:=rdJ_int hx0.1 hx0.2
  have hk:=hj _ (List.getElem_mem (show x.toNat<jobs.length by omega))
  rw [←hr] at hk
  have hm:0≤mx now (rd_T47 jobs x).f2∧mx now (rd_T47 jobs x).f2≤B:=by unfold mx;split <;> omega
  have hw:wrap64 (mx now (rd_T47 jobs x).f2 + (rd_T47 jobs x).f0)=mx now (rd_T47 jobs x).f2 + (rd_T47 jobs x).f0:=wr (by omega) (by omega)
  rw [endsF,hw]
  intro e he
  have:=endsF_le jobs hj xs _ _ (B + 50) (by omega) (by omega) (by omega) (by omega) (fun y hy=>hx y (List.mem_cons_of_mem _ hy)) (fun e he=>by
   rcases List.mem_or_eq_of_mem_set he with he|rfl
   ·have:=ho e he;omega
   ·omega) e he
  simp only [List.length_cons];omega
theorem endsAll_le (jobs:List J) (l:List Int) (h:TwoOk jobs l):∀ e ∈ endsAll jobs l,e≤900:=by
 have h8:=h.1.1
 have hl:=h.2.1
 intro e he
 have:=endsF_le jobs (fun j hj=>by have:=h.1.2 j hj;unfold JobOk at this;omega) l _ 0 500 (by omega) (by omega) (by omega) (by omega) h.2.2.2 (fun e he=>by rw [(List.mem_replicate.1 he).2];omega) e he
 omega
theorem mul_bd {x y M N:Int} (h0:0≤x) (h1:x≤M) (h2:0≤y) (h3:y≤N):0≤x * y∧x * y≤M * N:=⟨Int.mul_nonneg h0 h2,Int.mul_le_mul h1 h3 h2 (by omega)⟩
theorem addF_bd (s:Int) (j:J) (e f:Int) (b:Bool) (B:Int) (hB:0≤B∧B≤900000) (hs : -B≤s∧s≤B) (hj:JobOk j) (he:0≤e∧e≤900) : -(B + 50000)≤addF s j e f b∧addF s j e f b≤B + 50000:=by
 unfold JobOk at hj
 obtain ⟨j0,j1,j2,j3⟩:=hj
 have w1:wrap64 (e - j.f3)=e - j.f3:=wr (by omega) (by omega)
 have m0:0≤mx 0 (e - j.f3)∧mx 0 (e - j.f3)≤900:=by unfold mx;split <;> omega
 have p1:=mul_bd j1.1 j1.2 he.1 he.2
 have p2:=mul_bd j1.1 j1.2 m0.1 m0.2
 have w2:wrap64 (j.f1 * e)=j.f1 * e:=wr (by omega) (by omega)
 have w3:wrap64 (j.f1 * mx 0 (e - j.f3))=j.f1 * mx 0 (e - j.f3):=wr (by omega) (by omega)
 have x1:s≤mx s e∧e≤mx s e∧(mx s e=s∨mx s e=e):=by unfold mx;split <;> omega
 have x2:s≤mx s (e - j.f3)∧e - j.f3≤mx s (e - j.f3)∧(mx s (e - j.f3)=s∨mx s (e - j.f3)=e - j.f3):=by unfold mx;split <;> omega
 unfold addF
 rw [w1,w2,w3]
 generalize j.f1 * e=P1 at *
 generalize j.f1 * mx 0 (e - j.f3)=P2 at *
 generalize mx 0 (e - j.f3)=M0 at *
 rw [wr (x:=s + e) (by omega) (by omega),wr (x:=s + P1) (by omega) (by omega),wr (x:=s + M0) (by omega) (by omega),wr (x:=s + P2) (by omega) (by omega),wr (x:=s + 1) (by omega) (by omega),wr (x:=s + j.f1) (by omega) (by omega)]
 repeat' split
 all_goals omega
theorem valF_bd (jobs:List J) (hj:JobsOk jobs) (ends:List Int) (f:Int) (hl:ends.length=jobs.length) (he:∀ e ∈ ends,0≤e∧e≤900):∀ (n i:Nat) (s B:Int),i + n=jobs.length→0≤B→B + 50000 * (n:Int)≤900000→ -B≤s∧s≤B→ -(B + 50000 * (n:Int))≤valF jobs ends f n i s∧valF jobs ends f n i s≤B + 50000 * (n:Int)
 | 0,_,s,B,_,_,_,hs=>by rw [valF];simpa using hs
 | n + 1,i,s,B,hi,hB,hB2,hs=>by
  have hi2:i<jobs.length:=by omega
  have h1:=hj.2 _ (List.getElem_mem hi2)
  have h2:=he _ (List.getElem_mem (show i<ends.length by omega))
  have ha:=addF_bd s jobs[i] ends[i] f (decide (i=0)) B (by omega) hs h1 h2
  rw [valF,rdJ hi2,rd_nat (show i<ends.length by omega)]
  have:=valF_bd jobs hj ends f hl he n (i + 1) _ (B + 50000) (by omega) (by omega) (by omega) ha
  omega
theorem pt_bd (jobs:List J) (l:List Int) (f g:Int) (h:TwoOk jobs l):(-400000≤(pointF jobs f g l).1∧(pointF jobs f g l).1≤400000)∧(-400000≤(pointF jobs f g l).2∧(pointF jobs f g l).2≤400000):=by
 have h8:=h.1.1
 have he:∀ e ∈ endsAll jobs l,0≤e∧e≤900:=fun e hm=>⟨endsAll_nonneg jobs l h e hm,endsAll_le jobs l h e hm⟩
 have a:=valF_bd jobs h.1 (endsAll jobs l) f (endsAll_len jobs l) he jobs.length 0 0 0 (by omega) (by omega) (by omega) (by omega)
 have b:=valF_bd jobs h.1 (endsAll jobs l) g (endsAll_len jobs l) he jobs.length 0 0 0 (by omega) (by omega) (by omega) (by omega)
 unfold pointF
 exact ⟨by simp only;omega,by simp only;omega⟩

def PtIn (q:A2):Prop:=(-400000≤q.f0∧q.f0≤400000)∧(-400000≤q.f1∧q.f1≤400000)
theorem front_in (jobs:List J) (f g:Int) (hj:JobsOk jobs) (hf:Obj8 f) (hg:Obj8 g):∀ q ∈ frontF jobs f g,PtIn q:=by
 intro q hq
 obtain ⟨l,hl,rfl⟩:=(spec_l11Try.ev jobs f g hj hf hg).2.2 q hq
 exact pt_bd jobs l f g ⟨hj,perms_isPerm hl⟩
theorem prod_bd {x y:Int} (h1 : -800000≤x∧x≤800000) (h2 : -800000≤y∧y≤800000) : -640000000000≤x * y∧x * y≤640000000000:=by
 have e:=Int.natAbs_mul x y
 have h:x.natAbs * y.natAbs≤800000 * 800000:=Nat.mul_le_mul (by omega) (by omega)
 omega
theorem below_ok {p r q:A2} (hp:PtIn p) (hr:PtIn r) (hq:PtIn q):spec_l11Below.f r.f0 r.f1 p.f0 p.f1 q.f0 q.f1=some (spOk p r q):=by
 unfold PtIn at hp hr hq
 unfold spec_l11Below.f spOk
 rw [wr (x:=p.f1 - r.f1) (by omega) (by omega),wr (x:=q.f0 - r.f0) (by omega) (by omega),wr (x:=q.f1 - r.f1) (by omega) (by omega),wr (x:=p.f0 - r.f0) (by omega) (by omega),wr (x:=p.f1 - q.f1) (by omega) (by omega),wr (x:=r.f1 - p.f1) (by omega) (by omega),wr (x:=q.f0 - p.f0) (by omega) (by omega)]
 have b1:=prod_bd (x:=p.f1 - r.f1) (y:=q.f0 - r.f0) (by omega) (by omega)
 have b2:=prod_bd (x:=q.f1 - r.f1) (y:=p.f0 - r.f0) (by omega) (by omega)
 have b3:=prod_bd (x:=p.f1 - q.f1) (y:=p.f0 - r.f0) (by omega) (by omega)
 have b4:=prod_bd (x:=r.f1 - p.f1) (y:=q.f0 - p.f0) (by omega) (by omega)
 rw [wr (x:=(p.f1 - r.f1) * (q.f0 - r.f0)) (by omega) (by omega),wr (x:=(q.f1 - r.f1) * (p.f0 - r.f0)) (by omega) (by omega),wr (x:=(p.f1 - q.f1) * (p.f0 - r.f0)) (by omega) (by omega),wr (x:=(r.f1 - p.f1) * (q.f0 - p.f0)) (by omega) (by omega)]
 congr 1
 refine decide_eq_decide.2 ?_
 have e1:(p.f1 - r.f1) * (q.f0 - r.f0)=(p.f1 - r.f1) * (q.f0 - p.f0) + (p.f1 - r.f1) * (p.f0 - r.f0):=by rw [←Int.mul_add];congr 1;omega
 have e2:(q.f1 - r.f1) * (p.f0 - r.f0)=(q.f1 - p.f1) * (p.f0 - r.f0) + (p.f1 - r.f1) * (p.f0 - r.f0):=by rw [←Int.add_mul];congr 1;omega
 have e3:(p.f1 - q.f1) * (p.f0 - r.f0)= -((q.f1 - p.f1) * (p.f0 - r.f0)):=by rw [←Int.neg_mul];congr 1;omega
 have e4:(r.f1 - p.f1) * (q.f0 - p.f0)= -((p.f1 - r.f1) * (q.f0 - p.f0)):=by rw [←Int.neg_mul];congr 1;omega
 rw [e1,e2,e3,e4]
 omega
theorem spec_l11Supported.ev (fr:List A2) (i:Nat) (hi:i<fr.length) (hl:fr.length≤1000000) (hin:∀ q ∈ fr,PtIn q):Ev (fun k=>spec_l11Supported.f k fr (i:Int)) (spSup fr i):=by
 unfold spec_l11Supported.f spSup spMid
 have hpi:rd_T45 fr (i:Int)=fr[i]:=rdA2 hi
 have hp:=hin _ (List.getElem_mem hi)
 rw [hpi]
 have key:=rev_ind (P:=fun a=>Ev (fun k=>spec_l11Supported.l0 k fr (i:Int) (a:Int)) (((fr.take i).drop a).all fun r=>(fr.drop (i + 1)).all fun q=>spOk fr[i] r q)) i ?_ ?_ 0 (Nat.zero_le _)
 ·simpa using key
 ·refine ev_stop fun k=>?_
  simp only [spec_l11Supported.l0];rw [if_neg (by omega),List.drop_of_length_le (by simp;omega)];rfl
 ·intro a ha ih
  have ha2:a<(fr.take i).length:=by simp;omega
  rw [drop_cons ha2,List.all_cons,List.getElem_take]
  have hr:=hin _ (List.getElem_mem (show a<fr.length by omega))
  have hra:rd_T45 fr (a:Int)=fr[a]:=rdA2 (by omega)
  have inner:=rev_ind (P:=fun c=>Ev (fun k=>spec_l11Supported.l1 k fr (i:Int) (a:Int) (c:Int)) (((fr.drop c).all fun q=>spOk fr[i] fr[a] q) && (((fr.take i).drop (a + 1)).all fun r=>(fr.drop (i + 1)).all fun q=>spOk fr[i] r q))) fr.length ?_ ?_ (i + 1) (by omega)
  ·refine ev_go _ (fun k=>?_) inner
   simp only [spec_l11Supported.l0];rw [if_pos (by omega),wr1 (by omega)]
  ·rw [List.drop_of_length_le (Nat.le_refl _)]
   refine ev_go _ (fun k=>?_) ih
   simp only [spec_l11Supported.l1];rw [if_neg (by omega),wr1 (by omega)]
  ·intro c hc ihc
   rw [drop_cons hc,List.all_cons]
   have hq:=hin _ (List.getElem_mem hc)
   have hd:=below_ok hp hr hq
   have hrc:rd_T45 fr (c:Int)=fr[c]:=rdA2 hc
   by_cases hk:spOk fr[i] fr[a] fr[c]=true
   ·rw [hk,Bool.true_and]
    refine ev_go _ (fun k=>?_) ihc
    simp only [spec_l11Supported.l1];rw [if_pos (by omega),if_pos (by omega),if_pos (by omega),if_pos (by omega),if_pos (by omega),if_pos (by omega),hra,hpi,hrc,hd,Option.bind_some,if_pos hk,wr1 (by omega)]
   ·rw [show spOk fr[i] fr[a] fr[c]=false by simpa using hk,Bool.false_and,Bool.false_and]
    refine ev_stop fun k=>?_
    simp only [spec_l11Supported.l1];rw [if_pos (by omega),if_pos (by omega),if_pos (by omega),if_pos (by omega),if_pos (by omega),if_pos (by omega),hra,hpi,hrc,hd,Option.bind_some,if_neg hk]

theorem core_SupportedPoints (jobs:List J) (f g:Int) (hj:jobs.length≤1048576) (hf:(Lit.int .i64 f).wf=true) (hg:(Lit.int .i64 g).wf=true):∃ r b,Ev (fun k=>spec_SupportedPoints.f k jobs f g) (r,b)∧Ev (fun k=>impl_SupportedPoints.f k jobs f g) (r,b)∧r.length≤1048576:=by
 unfold spec_SupportedPoints.f impl_SupportedPoints.f
 simp only [Option.bind_some]
 have e1:=spec_l2Good.ev jobs (by omega)
 have e2:=spec_l11Two.ev f g
 have e3:=impl_areTwo.ev jobs f g
 by_cases h:JobsOk jobs∧Obj8 f∧Obj8 g
 ·have hl:=frontF_len jobs f g h.1 h.2.1 h.2.2
  have hin:=front_in jobs f g h.1 h.2.1 h.2.2
  have eF:=spec_l11Front.ev jobs f g h.1 h.2.1 h.2.2
  have eI:=impl_frontOf.ev jobs f g h.1
  generalize frontF jobs f g=fr at hl hin eF eI
  have hs:Ev (fun k=>spec_SupportedPoints.l0 k [] fr 0) (spPts fr fr.length,true):=by
   have key:=rev_ind (P:=fun i=>Ev (fun k=>spec_SupportedPoints.l0 k (spPts fr i) fr (i:Int)) (spPts fr fr.length,true)) fr.length ?_ ?_ 0 (Nat.zero_le _)
   ·simpa [spPts] using key
   ·refine ev_stop fun k=>?_
    simp only [spec_SupportedPoints.l0];rw [if_neg (by omega)]
   ·intro i hi ih
    have hll:=spPts_len fr i
    rw [spPts_succ] at ih
    refine ev_go_bind (F:=?F) (fun k=>?h1) (spec_l11Supported.ev fr i hi (by omega) hin) ?h2
    case h1=>simp only [spec_SupportedPoints.l0];rw [if_pos (by omega),wr1 (by omega)]
    case h2=>
     by_cases hk:spSup fr i=true
     ·rw [if_pos hk] at ih
      have z1:(0≤(i:Int))=True:=eq_true (by omega)
      have z2:((spPts fr i).length<8796093022208)=True:=eq_true (by omega)
      simp only [hk,if_true,z1,z2]
      exact ih
     ·rw [if_neg hk,List.append_nil] at ih
      simp only [show spSup fr i=false by simpa using hk,Bool.false_eq_true,if_false]
      exact ih
  refine ⟨spPts fr fr.length,true,ev_guard' e1 (fun _=>evB_bind e2 (fun _=>?_) (fun hn=>absurd h.2 hn)) (fun hn=>absurd h.1 hn),ev_guard' e3 (fun _=>ev_bind _ eI ?_) (fun hn=>absurd h hn),by have:=spPts_len fr fr.length;omega⟩
  ·refine ev_go (fun k=>(spec_l11Front.f k jobs f g).bind fun t=>spec_SupportedPoints.l0 k [] t 0) (fun k=>by simp only [spec_SupportedPoints.j0];rw [if_neg (by simp)]) (ev_bind _ eF hs)
  ·simp only [if_pos (show fr.length≤1048576 by omega)]
   exact Ev.now _
 ·have no:Ev (fun k=>spec_SupportedPoints.j0 k jobs f g [] true) ([],false):=ev_stop fun k=>by simp only [spec_SupportedPoints.j0];exact if_pos trivial
  refine ⟨[],false,?_,ev_guard' e3 (fun h1=>absurd h1 h) (fun _=>Ev.now _),by simp⟩
  exact ev_guard' e1 (fun h2=>evB_bind e2 (fun h3=>absurd ⟨h2,h3⟩ h) (fun _=>no)) (fun _=>no)

end Go.Proofs.Ytplbabjigikgjaa.Pure
-- minified
