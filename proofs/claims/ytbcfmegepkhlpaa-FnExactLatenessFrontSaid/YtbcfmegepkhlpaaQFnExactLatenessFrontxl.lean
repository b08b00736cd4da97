/- Proved here: what functions that the law FnExactLatenessFront reaches answer (frontP, permsAll, laws_heldIntA2S, spec_l11Put, frontI, valBd, lateL, lateP, lateBack, frontUniq, core_LatenessFront). Conditions: those that each theorem names. -/
import Derived.Test.YtbcfmegepkhlpaaQFnExactLatenessFronta
set_option linter.unusedVariables false
set_option linter.unusedSimpArgs false
namespace Go.Proofs.Ytbcfmegepkhlpaa.Pure
open Go.RowKit Go.Proofs.Ytbcfmegepkhlpaa.XFnExactLatenessFront Go.Proofs.YtbcfmegepkhlpaaW.PrintWords Go.Proofs.YtbcfmegepkhlpaaW.PrintLast

def insL (p:A2):List A2→List A2
 | []=>[p]
 | q::l=>if q.f0>p.f0 then p::q::l else q::insL p l
def FrS (l:List A2):Prop:=l.Pairwise fun a b=>a.f0<b.f0
theorem insL_at (p:A2):∀ {l:List A2},FrS l→∃ j,j≤l.length∧insL p l=l.take j++p::l.drop j∧(∀ i (h:i<l.length),i<j→l[i].f0≤p.f0)∧(∀ i (h:i<l.length),j≤i→p.f0<l[i].f0)
 | [],_=>⟨0,Nat.le_refl _,rfl,fun i h=>by simp at h,fun i h=>by simp at h⟩
 | q::l,hs=>by
  have hs':=List.pairwise_cons.1 hs
  by_cases c:q.f0>p.f0
  ·refine ⟨0,Nat.zero_le _,by simp [insL,c],fun i h hi=>absurd hi (by omega),fun i h _=>?_⟩
   cases i with
   | zero=>exact c
   | succ i=>
    have:=hs'.1 _ (List.getElem_mem (show i<l.length by simpa using h))
    simp only [List.getElem_cons_succ];omega
  ·obtain ⟨j,h1,h2,h3,h4⟩:=insL_at p hs'.2
   refine ⟨j + 1,by simp;omega,by simp [insL,c,h2],fun i h hi=>?_,fun i h hi=>?_⟩
   ·cases i with
    | zero=>simp only [List.getElem_cons_zero];omega
    | succ i=>exact h3 i (by simpa using h) (by omega)
   ·cases i with
    | zero=>omega
    | succ i=>exact h4 i (by simpa using h) (by omega)
theorem frPos_at (p:A2) (l:List A2) (j:Nat) (h1:∀ i (h:i<l.length),i<j→l[i].f0≤p.f0) (h2:∀ i (h:i<l.length),j≤i→p.f0<l[i].f0):∀ k,j≤k→k≤l.length→frPos p l k=j
 | 0,hj,_=>by rw [frPos];omega
 | k + 1,hj,hk=>by
  rw [frPos,rdA2 (show k<l.length by omega)]
  by_cases e:j=k + 1
  ·rw [if_neg (by have:=h1 k (by omega) (by omega);omega)];exact e.symm
  ·rw [if_pos (h2 k (by omega) (by omega))]
   exact frPos_at p l j h1 h2 k (by omega) (by omega)
theorem frIns_eq (p:A2) {l:List A2} (hs:FrS l):frIns p l=insL p l:=by
 obtain ⟨j,h1,h2,h3,h4⟩:=insL_at p hs
 rw [frIns,frPos_at p l j h3 h4 l.length h1 (Nat.le_refl _),h2]
theorem insL_mem (p:A2):∀ (l:List A2) (q:A2),q ∈ insL p l ↔ q=p∨q ∈ l
 | [],q=>by simp [insL]
 | a::l,q=>by
  unfold insL
  split
  ·simp
  ·rw [List.mem_cons,insL_mem p l q,List.mem_cons]
   constructor
   ·rintro (h|h|h)
    ·exact .inr (.inl h)
    ·exact .inl h
    ·exact .inr (.inr h)
   ·rintro (h|h|h)
    ·exact .inr (.inl h)
    ·exact .inl h
    ·exact .inr (.inr h)
theorem insL_sorted (p:A2):∀ (l:List A2),FrS l→(∀ q ∈ l,q.f0≠p.f0)→FrS (insL p l)
 | [],_,_=>List.pairwise_singleton _ _
 | a::l,hs,hn=>by
  have hs':=List.pairwise_cons.1 hs
  unfold insL
  split
  ·rename_i c
   refine List.pairwise_cons.2 ⟨fun q hq=>?_,hs⟩
   rcases List.mem_cons.1 hq with rfl|hq
   ·exact c
   ·have:=hs'.1 q hq;omega
  ·rename_i c
   refine List.pairwise_cons.2 ⟨fun q hq=>?_,insL_sorted p l hs'.2 fun q hq=>hn q (List.mem_cons_of_mem _ hq)⟩
   rcases (insL_mem p l q).1 hq with rfl|hq
   ·have:=hn a List.mem_cons_self;omega
   ·exact hs'.1 q hq
theorem frLe_iff {q p:A2} : frLe q p=true ↔ q.f0≤p.f0∧q.f1≤p.f1:=by unfold frLe;simp
theorem frPut_no {p:A2} {l:List A2} (hs:FrS l) (h:¬ l.any (fun q=>frLe q p)=true):frPut p l=insL p (l.filter fun q=> !frLe p q):=by
 rw [frPut,if_neg h,frIns_eq p (List.Pairwise.filter _ hs)]
theorem frPut_sorted {p:A2} {l:List A2} (hs:FrS l):FrS (frPut p l):=by
 by_cases h:l.any (fun q=>frLe q p)=true
 ·rw [frPut,if_pos h];exact hs
 ·rw [frPut_no hs h]
  refine insL_sorted p _ (List.Pairwise.filter _ hs) fun q hq e=>?_
  have h1:=List.mem_filter.1 hq
  have h2:¬ frLe q p=true:=fun h2=>h (List.any_eq_true.2 ⟨q,h1.1,h2⟩)
  have h3:¬ frLe p q=true:=by have:=h1.2;simpa using this
  rw [frLe_iff] at h2 h3
  by_cases c:q.f1≤p.f1
  ·exact h2 ⟨by omega,c⟩
  ·exact h3 ⟨by omega,by omega⟩
theorem frPut_mem {p q:A2} {l:List A2} (hs:FrS l) (h:q ∈ frPut p l):q=p∨q ∈ l:=by
 by_cases c:l.any (fun q=>frLe q p)=true
 ·rw [frPut,if_pos c] at h;exact .inr h
 ·rw [frPut_no hs c,insL_mem] at h
  rcases h with h|h
  ·exact .inl h
  ·exact .inr (List.mem_filter.1 h).1
def factN:Nat→Nat
 | 0=>1
 | n + 1=>(n + 1) * factN n
theorem perms_len:∀ (n:Nat) (L:List Int),L.length=n→(perms n L).length=factN n
 | 0,L,h=>by simp [perms,factN]
 | n + 1,L,h=>by
  have key:∀ M:List Int,(∀ x ∈ M,x ∈ L)→(M.flatMap fun x=>(perms n (L.erase x)).map fun l=>x::l).length=M.length * factN n:=by
   intro M
   induction M with
   | nil=>intro _;simp
   | cons x M ih=>
    intro hM
    rw [List.flatMap_cons,List.length_append,List.length_map,perms_len n (L.erase x) (by rw [List.length_erase_of_mem (hM x List.mem_cons_self)];omega),ih fun y hy=>hM y (List.mem_cons_of_mem _ hy),List.length_cons,Nat.succ_mul]
    omega
  have:=key L (fun x hx=>hx)
  rw [h] at this
  rw [factN,←this]
  rfl
theorem factN_le:∀ n,n≤8→factN n≤40320:=by decide
/-- What a front holds: points of orders, by the first value. -/
def FrQ (pt:List Int→A2) (n:Nat) (s:List A2):Prop:=FrS s∧∀ q ∈ s,∃ l ∈ perms n (nums_to n),pt l=q
theorem FrQ.len {pt:List Int→A2} {n:Nat} {s:List A2} (h:FrQ pt n s) (hn:n≤8):s.length≤40320:=by
 have h1:(s.map fun q=>q.f0).Nodup:=by
  rw [List.nodup_iff_pairwise_ne,List.pairwise_map]
  exact h.1.imp fun hlt e=>by omega
 have h2:=nodup_sub h1 (s:=(perms n (nums_to n)).map fun l=>(pt l).f0) (fun x hx=>by
  obtain ⟨q,hq,rfl⟩:=List.mem_map.1 hx
  obtain ⟨l,hl,e⟩:=h.2 q hq
  exact List.mem_map.2 ⟨l,hl,by rw [e]⟩)
 rw [List.length_map,List.length_map,perms_len n _ (nums_to_length n)] at h2
 have:=factN_le n hn
 omega
theorem FrQ.put {pt:List Int→A2} {n:Nat} {s:List A2} (h:FrQ pt n s) {l:List Int} (hl:l ∈ perms n (nums_to n)):FrQ pt n (frPut (pt l) s):=by
 refine ⟨frPut_sorted h.1,fun q hq=>?_⟩
 rcases frPut_mem h.1 hq with rfl|hq
 ·exact ⟨l,hl,rfl⟩
 ·exact h.2 q hq

theorem perms_all:∀ (n:Nat) (L l:List Int),L.length=n→L.Nodup→l.Perm L→l ∈ perms n L
 | 0,L,l,hL,_,hp=>by
  obtain rfl:=List.eq_nil_of_length_eq_zero hL
  have:=hp.eq_nil
  subst this
  simp [perms]
 | n + 1,L,l,hL,hn,hp=>by
  have hlen:=hp.length_eq
  cases l with
  | nil=>simp at hlen;omega
  | cons x t=>
   have hx:x ∈ L:=hp.subset List.mem_cons_self
   have ht:t.Perm (L.erase x):=by
    have h2:=hp.erase x
    rwa [List.erase_cons_head] at h2
   have:=perms_all n (L.erase x) t (by rw [List.length_erase_of_mem hx];omega) (hn.erase x) ht
   show x::t ∈ L.flatMap fun x=>(perms n (L.erase x)).map fun l=>x::l
   exact List.mem_flatMap.2 ⟨x,hx,List.mem_map.2 ⟨t,this,rfl⟩⟩
theorem count_nodup:∀ {l:List Int},l.Nodup→∀ a,l.count a=if a ∈ l then 1 else 0
 | [],_,a=>by simp
 | b::l,h,a=>by
  have h':=List.nodup_cons.1 h
  rw [List.count_cons,count_nodup h'.2]
  by_cases e:b=a
  ·subst e
   simp [h'.1]
  ·have e':¬ a=b:=fun h2=>e h2.symm
   simp [e,e']
theorem isPerm_perms {n:Nat} {l:List Int} (h:IsPerm n l):l ∈ perms n (nums_to n):=by
 refine perms_all n _ l (nums_to_length n) (nums_to_nodup n) ?_
 have h1:l.Perm (nums_to n):=by
  rw [List.perm_iff_count]
  intro a
  have c1:=count_nodup h.2.1 a
  have c2:=count_nodup (nums_to_nodup n) a
  rw [c1,c2]
  have:a ∈ l ↔ a ∈ nums_to n:=⟨fun h2=>mem_nums_to.2 (h.2.2 a h2),fun h2=>h.all a (mem_nums_to.1 h2).1 (mem_nums_to.1 h2).2⟩
  simp [this]
 exact h1

def a2M (a:Int):Nat→List A2
 | 0=>[]
 | n + 1=>⟨a,a + 1⟩::a2M (a + 2) n
theorem a2M_len:∀ (n:Nat) (a:Int),(a2M a n).length=n
 | 0,_=>rfl
 | n + 1,a=>by rw [a2M,List.length_cons,a2M_len n]
theorem a2M_snoc:∀ (n:Nat) (a:Int),a2M a (n + 1)=a2M a n++[⟨a + 2 * n,a + 2 * n + 1⟩]
 | 0,a=>by simp [a2M]
 | n + 1,a=>by
  rw [a2M,a2M_snoc n,a2M,List.cons_append]
  have e:a + 2 + 2 * (n:Int)=a + 2 * ((n + 1:Nat):Int):=by omega
  rw [e]
theorem a2M_get:∀ (n:Nat) (a:Int) (i:Nat) (h:i<(a2M a n).length),(a2M a n)[i]=⟨a + 2 * i,a + 2 * i + 1⟩
 | 0,_,i,h=>by simp [a2M] at h
 | n + 1,a,0,h=>by simp [a2M]
 | n + 1,a,i + 1,h=>by
  simp only [a2M,List.getElem_cons_succ]
  rw [a2M_get n]
  congr 1
  ·simp;omega
  ·simp;omega
theorem laws_markIntA2S.ev (l:List A2) (a:Int) (h0:0≤a) (h1:a≤1000000000000000) (hl:l.length≤1048576):Ev (fun k=>laws_markIntA2S.f k l a) (a + 2 * l.length,a2M a l.length):=by
 have key:=rev_ind (P:=fun i=>Ev (fun k=>laws_markIntA2S.l0 k (a2M a i++l.drop i) (a + 2 * i) (i:Int)) (a + 2 * l.length,a2M a l.length)) l.length ?_ ?_ 0 (Nat.zero_le _)
 ·simpa [laws_markIntA2S.f,a2M,hl] using key
 ·refine ev_stop fun k=>?_
  have hlen:(a2M a l.length++l.drop l.length).length=l.length:=by simp [a2M_len]
  simp only [laws_markIntA2S.l0];rw [if_neg (by rw [hlen];omega),if_neg (by rw [hlen];omega)];simp
 ·intro i hi ih
  have hlen:(a2M a i++l.drop i).length=l.length:=by simp [a2M_len];omega
  have w1:wrap64 (a + 2 * i + 1)=a + 2 * i + 1:=wr (by omega) (by omega)
  have w2:wrap64 (a + 2 * i + 1 + 1)=a + 2 * ((i + 1:Nat):Int):=by rw [wr (by omega) (by omega)];omega
  refine ev_go _ (fun k=>?_) ih
  simp only [laws_markIntA2S.l0];rw [if_pos (by rw [hlen];omega),w1,w2,wr1 (by omega)]
  congr 1
  rw [Int.toNat_natCast,drop_cons hi,List.set_append_right _ _ (by rw [a2M_len];exact Nat.le_refl _),a2M_len,Nat.sub_self,List.set_cons_zero,a2M_snoc,List.append_assoc]
  rfl
theorem laws_heldIntA2S.ev (n:Nat) (a:Int) (h0:0≤a) (h1:a≤1000000000000000) (hl:n≤1048576):Ev (fun k=>laws_heldIntA2S.f k (a2M a n) a) (a + 2 * n):=by
 have key:=rev_ind (P:=fun i=>Ev (fun k=>laws_heldIntA2S.l0 k (a2M a n) (a + 2 * i) (i:Int)) (a + 2 * n)) n ?_ ?_ 0 (Nat.zero_le _)
 ·simpa [laws_heldIntA2S.f,a2M_len,hl] using key
 ·refine ev_stop fun k=>?_
  simp only [laws_heldIntA2S.l0];rw [if_neg (by rw [a2M_len];omega),if_neg (by rw [a2M_len];omega)]
 ·intro i hi ih
  have hi':i<(a2M a n).length:=by rw [a2M_len];exact hi
  have w1:wrap64 (a + 2 * i + 1)=a + 2 * i + 1:=wr (by omega) (by omega)
  have w2:wrap64 (a + 2 * i + 1 + 1)=a + 2 * ((i + 1:Nat):Int):=by rw [wr (by omega) (by omega)];omega
  refine ev_go _ (fun k=>?_) ih
  simp only [laws_heldIntA2S.l0];rw [if_pos (by rw [a2M_len];omega),rdA2 hi',a2M_get]
  simp only [if_true];rw [w1,if_pos rfl,w2,wr1 (by omega)]
theorem laws_markIntA2S.held (l:List A2) (hl:l.length≤1048576):∃ n l',Ev (fun k=>laws_markIntA2S.f k l 1) (n,l')∧Ev (fun k=>laws_heldIntA2S.f k l' 1) n∧((n<0)=False):=
 ⟨_,_,laws_markIntA2S.ev l 1 (by omega) (by omega) hl,laws_heldIntA2S.ev l.length 1 (by omega) (by omega) hl,eq_false (by omega)⟩

theorem domS_ne {a b c d:Int} (h:¬ (a=c∧b=d)):spec_l11Dominates.f a b c d=some (decide (a≤c) && decide (b≤d)):=by
 unfold spec_l11Dominates.f
 by_cases h3:a≤c
 ·by_cases h4:b≤d
  ·by_cases h1:a=c
   ·have h2:b≠d:=fun e=>h ⟨h1,e⟩
    simp [h3,h4,h1,h2]
   ·simp [h3,h4,h1]
  ·simp [h3,h4]
 ·simp [h3]
theorem spec_l11Put.ev (l:List A2) (p:A2) (hl:l.length≤1000000) (hs:FrS l):Ev (fun k=>spec_l11Put.f k l p.f0 p.f1) (frPut p l):=by
 obtain ⟨p0,p1⟩:=p
 unfold spec_l11Put.f
  -- the second loop
 have second:∀ out:List A2,out.length≤1000000→(∀ q ∈ l,frLe q ⟨p0,p1⟩=false)→Ev (fun k=>spec_l11Put.l1 k l out false 0 p0 p1) (out++insL ⟨p0,p1⟩ (l.filter fun q=> !frLe ⟨p0,p1⟩ q)):=by
  intro out hout hno
  have key:=rev_ind (P:=fun i=>∀ out:List A2,out.length≤1000000 + 2 * i→Ev (fun k=>spec_l11Put.l1 k l out false (i:Int) p0 p1) (out++insL ⟨p0,p1⟩ ((l.drop i).filter fun q=> !frLe ⟨p0,p1⟩ q))∧Ev (fun k=>spec_l11Put.l1 k l out true (i:Int) p0 p1) (out++((l.drop i).filter fun q=> !frLe ⟨p0,p1⟩ q))) l.length ?_ ?_ 0 (Nat.zero_le _) out (by omega)
  ·have:=key.1;rwa [List.drop_zero] at this
  ·intro out ho
   rw [List.drop_of_length_le (Nat.le_refl _)]
   refine ⟨ev_stop fun k=>?_,ev_stop fun k=>?_⟩
   ·simp only [spec_l11Put.l1];rw [if_neg (by omega),if_neg (by simp),if_pos (by omega)];rfl
   ·simp only [spec_l11Put.l1];rw [if_neg (by omega)];simp
  ·intro i hi ih out ho
   have hq:=hno _ (List.getElem_mem hi)
   rw [drop_cons hi]
   obtain ⟨q,hqe⟩:∃ q,q=l[i]:=⟨_,rfl⟩
   rw [←hqe] at hq ⊢
   have hrd:rd_T72 l (i:Int)=q:=by rw [rdA2 hi,hqe]
   have hne:¬ (p0=q.f0∧p1=q.f1):=fun h=>by
    have:frLe q ⟨p0,p1⟩=true:=frLe_iff.2 ⟨by rw [←h.1];exact Int.le_refl _,by rw [←h.2];exact Int.le_refl _⟩
    rw [this] at hq;cases hq
   have hd:spec_l11Dominates.f p0 p1 q.f0 q.f1=some (frLe ⟨p0,p1⟩ q):=domS_ne hne
   by_cases hle:frLe ⟨p0,p1⟩ q=true
   ·rw [List.filter_cons_of_neg (by rw [hle];simp)]
    have ih2:=ih out (by omega)
    refine ⟨ev_go _ (fun k=>?_) ih2.1,ev_go _ (fun k=>?_) ih2.2⟩
    ·simp only [spec_l11Put.l1];rw [if_pos (by omega),if_pos (by omega),hrd,hd,Option.bind_some,if_pos hle,wr1 (by omega)]
    ·simp only [spec_l11Put.l1];rw [if_pos (by omega),if_pos (by omega),hrd,hd,Option.bind_some,if_pos hle,wr1 (by omega)]
   ·have hf:frLe ⟨p0,p1⟩ q=false:=by simpa using hle
    rw [List.filter_cons_of_pos (by rw [hf];rfl)]
    have eq_:(⟨q.f0,q.f1⟩:A2)=q:=rfl
    refine ⟨?_,?_⟩
    ·by_cases hg:q.f0>p0
     ·have ih2:=(ih (out++[⟨p0,p1⟩]++[q]) (by simp;omega)).2
      rw [insL,if_pos hg]
      rw [List.append_assoc,List.append_assoc] at ih2
      refine ev_go _ (fun k=>?_) ih2
      simp only [spec_l11Put.l1];rw [if_pos (by omega),if_pos (by omega),hrd,hd,Option.bind_some,if_neg hle,if_neg (by simp),if_pos hg,if_pos (by omega),Option.bind_some,if_pos (by simp;omega),wr1 (by omega),List.append_assoc]
     ·have ih2:=(ih (out++[q]) (by simp;omega)).1
      rw [insL,if_neg hg]
      rw [List.append_assoc] at ih2
      refine ev_go _ (fun k=>?_) ih2
      simp only [spec_l11Put.l1];rw [if_pos (by omega),if_pos (by omega),hrd,hd,Option.bind_some,if_neg hle,if_neg (by simp),if_neg hg,if_pos (by omega),wr1 (by omega)]
    ·have ih2:=(ih (out++[q]) (by simp;omega)).2
     rw [List.append_assoc] at ih2
     refine ev_go _ (fun k=>?_) ih2
     simp only [spec_l11Put.l1];rw [if_pos (by omega),if_pos (by omega),hrd,hd,Option.bind_some,if_neg hle];simp only [if_true];rw [if_pos (by omega),wr1 (by omega)]
 have first:=rev_ind (P:=fun i=>(∀ q ∈ l.take i,frLe q ⟨p0,p1⟩=false)→Ev (fun k=>spec_l11Put.l0 k l [] (i:Int) p0 p1) (frPut ⟨p0,p1⟩ l)) l.length ?_ ?_ 0 (Nat.zero_le _) (by simp)
 ·exact first
 ·intro hno
  rw [List.take_of_length_le (Nat.le_refl _)] at hno
  have h:=second [] (by simp) hno
  rw [frPut_no hs (fun h2=>by
   obtain ⟨q,hq,h3⟩:=List.any_eq_true.1 h2
   rw [hno q hq] at h3;cases h3)]
  rw [List.nil_append] at h
  refine ev_go _ (fun k=>?_) h
  simp only [spec_l11Put.l0];rw [if_neg (by omega)]
 ·intro i hi ih hno
  obtain ⟨q,hqe⟩:∃ q,q=l[i]:=⟨_,rfl⟩
  have hrd:rd_T72 l (i:Int)=q:=by rw [rdA2 hi,hqe]
  have hm:q ∈ l:=by rw [hqe];exact List.getElem_mem hi
  by_cases he:q.f0=p0∧q.f1=p1
  ·have ha:l.any (fun q=>frLe q ⟨p0,p1⟩)=true:=List.any_eq_true.2 ⟨q,hm,frLe_iff.2 ⟨by rw [he.1];exact Int.le_refl _,by rw [he.2];exact Int.le_refl _⟩⟩
   rw [frPut,if_pos ha]
   refine ev_stop fun k=>?_
   simp only [spec_l11Put.l0];rw [if_pos (by omega),if_pos (by omega),hrd,if_pos (by simp [he.1,he.2])]
  ·have hd:spec_l11Dominates.f q.f0 q.f1 p0 p1=some (frLe q ⟨p0,p1⟩):=domS_ne he
   have hb:¬ (q.f0 == p0 && (q.f1 == p1))=true:=by
    intro h;simp only [Bool.and_eq_true,beq_iff_eq] at h;exact he h
   by_cases hle:frLe q ⟨p0,p1⟩=true
   ·have ha:l.any (fun q=>frLe q ⟨p0,p1⟩)=true:=List.any_eq_true.2 ⟨q,hm,hle⟩
    rw [frPut,if_pos ha]
    refine ev_stop fun k=>?_
    simp only [spec_l11Put.l0];rw [if_pos (by omega),if_pos (by omega),hrd,if_neg hb,hd,Option.bind_some,if_pos hle]
   ·refine ev_go _ (fun k=>?_) (ih fun x hx=>?_)
    ·simp only [spec_l11Put.l0];rw [if_pos (by omega),if_pos (by omega),hrd,if_neg hb,hd,Option.bind_some,if_neg hle,wr1 (by omega)]
    ·rw [List.take_succ_eq_append_getElem hi,List.mem_append,List.mem_singleton] at hx
     rcases hx with hx|rfl
     ·exact hno x hx
     ·rw [←hqe];simpa using hle

def ptF (jobs:List J) (f g:Int) (l:List Int):A2:=⟨(pointF jobs f g l).1,(pointF jobs f g l).2⟩
def frontF (jobs:List J) (f g:Int):List A2:=(perms jobs.length (nums_to jobs.length)).foldl (fun s l=>frPut (ptF jobs f g l) s) []
theorem impl_frontOf.ev (jobs:List J) (f g:Int) (hj:JobsOk jobs):Ev (fun k=>impl_frontOf.f k jobs f g) (frontF jobs f g):=by
 have h8:=hj.1
 unfold impl_frontOf.f
 refine impl_eachOrder.ev (impl_frontOf.step jobs f g) (fun l s=>frPut (ptF jobs f g l) s) (fun s=>FrQ (ptF jobs f g) jobs.length s) jobs.length (by omega) [] (fun l hl s hs=>⟨?_,hs.put (isPerm_perms hl)⟩) ⟨List.Pairwise.nil,by simp⟩
 have hsl:=hs.len (by omega)
 unfold impl_frontOf.step
 simp only [if_pos (show s.length≤1048576 by omega)]
 exact ev_bind _ (impl_pointOf.ev jobs l f g ⟨hj,hl⟩) (Ev.now _)
theorem frontF_q (jobs:List J) (f g:Int):FrQ (ptF jobs f g) jobs.length (frontF jobs f g):=by
 have gen:∀ (L:List (List Int)) (s:List A2),(∀ l ∈ L,l ∈ perms jobs.length (nums_to jobs.length))→FrQ (ptF jobs f g) jobs.length s→FrQ (ptF jobs f g) jobs.length (L.foldl (fun s l=>frPut (ptF jobs f g l) s) s):=by
  intro L
  induction L with
  | nil=>intro s _ h;exact h
  | cons a L ih=>
   intro s hL h
   rw [List.foldl_cons]
   exact ih _ (fun l hl=>hL l (List.mem_cons_of_mem _ hl)) (h.put (hL a List.mem_cons_self))
 exact gen _ _ (fun l hl=>hl) ⟨List.Pairwise.nil,by simp⟩
theorem frontF_len0 (jobs:List J) (f g:Int) (hj:JobsOk jobs):(frontF jobs f g).length≤40320:=(frontF_q jobs f g).len (by have:=hj.1;omega)

theorem endsF_le (jobs:List J) (hj:∀ j ∈ jobs,0≤j.f0∧j.f0≤50∧0≤j.f2∧j.f2≤500):∀ (l out:List Int) (now B:Int),0≤now→now≤B→500≤B→B + 50 * (l.length:Int)≤1000000000→(∀ x ∈ l,0≤x∧x<jobs.length)→(∀ e ∈ out,e≤B)→∀ e ∈ endsF jobs l out now,e≤B + 50 * (l.length:Int)
 | [],_,_,_,_,_,_,_,_,h=>fun e he=>by have:=h e he;simp;omega
 | x::xs,out,now,B,h0,h1,h2,h3,hx,ho=>by
  simp only [List.length_cons] at h3
  have hx0:=hx x List.mem_cons_self
  have hr:=rdJ_int hx0.1 hx0.2
  have hk:=hj _ (List.getElem_mem (show x.toNat<jobs.length by omega))
  rw [←hr] at hk
  have hm:0≤mx now (rd_T76 jobs x).f2∧mx now (rd_T76 jobs x).f2≤B:=by unfold mx;split <;> omega
  have hw:wrap64 (mx now (rd_T76 jobs x).f2 + (rd_T76 jobs x).f0)=mx now (rd_T76 jobs x).f2 + (rd_T76 jobs x).f0:=wr (by omega) (by omega)
  rw [endsF,hw]
  intro e he
  have:=endsF_le jobs hj xs _ _ (B + 50) (by omega) (by omega) (by omega) (by omega) (fun y hy=>hx y (List.mem_cons_of_mem _ hy)) (fun e he=>by
   rcases List.mem_or_eq_of_mem_set he with he|rfl
   ·have:=ho e he;omega
   ·omega) e he
  simp only [List.length_cons];omega
theorem endsAll_le (jobs:List J) (l:List Int) (h:TwoOk jobs l):∀ e ∈ endsAll jobs l,e≤900:=by
 have h8:=h.1.1
 have hl:=h.2.1
 intro e he
 have:=endsF_le jobs (fun j hj=>by have:=h.1.2 j hj;unfold JobOk at this;omega) l _ 0 500 (by omega) (by omega) (by omega) (by omega) h.2.2.2 (fun e he=>by rw [(List.mem_replicate.1 he).2];omega) e he
 omega
theorem mul_bd {x y M N:Int} (h0:0≤x) (h1:x≤M) (h2:0≤y) (h3:y≤N):0≤x * y∧x * y≤M * N:=⟨Int.mul_nonneg h0 h2,Int.mul_le_mul h1 h3 h2 (by omega)⟩
theorem addF_bd (s:Int) (j:J) (e f:Int) (b:Bool) (B:Int) (hB:0≤B∧B≤900000) (hs : -B≤s∧s≤B) (hj:JobOk j) (he:0≤e∧e≤900) : -(B + 50000)≤addF s j e f b∧addF s j e f b≤B + 50000:=by
 unfold JobOk at hj
 obtain ⟨j0,j1,j2,j3⟩:=hj
 have w1:wrap64 (e - j.f3)=e - j.f3:=wr (by omega) (by omega)
 have m0:0≤mx 0 (e - j.f3)∧mx 0 (e - j.f3)≤900:=by unfold mx;split <;> omega
 have p1:=mul_bd j1.1 j1.2 he.1 he.2
 have p2:=mul_bd j1.1 j1.2 m0.1 m0.2
 have w2:wrap64 (j.f1 * e)=j.f1 * e:=wr (by omega) (by omega)
 have w3:wrap64 (j.f1 * mx 0 (e - j.f3))=j.f1 * mx 0 (e - j.f3):=wr (by omega) (by omega)
 have x1:s≤mx s e∧e≤mx s e∧(mx s e=s∨mx s e=e):=by unfold mx;split <;> omega
 have x2:s≤mx s (e - j.f3)∧e - j.f3≤mx s (e - j.f3)∧(mx s (e - j.f3)=s∨mx s (e - j.f3)=e - j.f3):=by unfold mx;split <;> omega
 unfold addF
 rw [w1,w2,w3]
 generalize j.f1 * e=P1 at *
 generalize j.f1 * mx 0 (e - j.f3)=P2 at *
 generalize mx 0 (e - j.f3)=M0 at *
 rw [wr (x:=s + e) (by omega) (by omega),wr (x:=s + P1) (by omega) (by omega),wr (x:=s + M0) (by omega) (by omega),wr (x:=s + P2) (by omega) (by omega),wr (x:=s + 1) (by omega) (by omega),wr (x:=s + j.f1) (by omega) (by omega)]
 repeat' split
 all_goals omega
theorem valF_bd (jobs:List J) (hj:JobsOk jobs) (ends:List Int) (f:Int) (hl:ends.length=jobs.length) (he:∀ e ∈ ends,0≤e∧e≤900):∀ (n i:Nat) (s B:Int),i + n=jobs.length→0≤B→B + 50000 * (n:Int)≤900000→ -B≤s∧s≤B→ -(B + 50000 * (n:Int))≤valF jobs ends f n i s∧valF jobs ends f n i s≤B + 50000 * (n:Int)
 | 0,_,s,B,_,_,_,hs=>by rw [valF];simpa using hs
 | n + 1,i,s,B,hi,hB,hB2,hs=>by
  have hi2:i<jobs.length:=by omega
  have h1:=hj.2 _ (List.getElem_mem hi2)
  have h2:=he _ (List.getElem_mem (show i<ends.length by omega))
  have ha:=addF_bd s jobs[i] ends[i] f (decide (i=0)) B (by omega) hs h1 h2
  rw [valF,rdJ hi2,rd_nat (show i<ends.length by omega)]
  have:=valF_bd jobs hj ends f hl he n (i + 1) _ (B + 50000) (by omega) (by omega) (by omega) ha
  omega
theorem pt_bd (jobs:List J) (l:List Int) (f g:Int) (h:TwoOk jobs l):(-400000≤(pointF jobs f g l).1∧(pointF jobs f g l).1≤400000)∧(-400000≤(pointF jobs f g l).2∧(pointF jobs f g l).2≤400000):=by
 have h8:=h.1.1
 have he:∀ e ∈ endsAll jobs l,0≤e∧e≤900:=fun e hm=>⟨endsAll_nonneg jobs l h e hm,endsAll_le jobs l h e hm⟩
 have a:=valF_bd jobs h.1 (endsAll jobs l) f (endsAll_len jobs l) he jobs.length 0 0 0 (by omega) (by omega) (by omega) (by omega)
 have b:=valF_bd jobs h.1 (endsAll jobs l) g (endsAll_len jobs l) he jobs.length 0 0 0 (by omega) (by omega) (by omega) (by omega)
 unfold pointF
 exact ⟨by simp only;omega,by simp only;omega⟩

/-- Orders from their end: the sum of times, the sum of ends, no lateness above a limit. -/
def totL (p:Int→Int):List Int→Int
 | []=>0
 | x::r=>p x + totL p r
def sumR (p:Int→Int):List Int→Int
 | []=>0
 | x::r=>totL p (x::r) + sumR p r
def feasR (p d:Int→Int) (L:Int):List Int→Prop
 | []=>True
 | x::r=>totL p (x::r)≤d x + L∧feasR p d L r
theorem totL_perm (p:Int→Int) {a b:List Int} (h:a.Perm b):totL p a=totL p b:=by
 induction h with
 | nil=>rfl
 | cons x _ ih=>simp only [totL,ih]
 | swap x y l=>simp only [totL];omega
 | trans _ _ i1 i2=>exact i1.trans i2
theorem totL_app (p:Int→Int):∀ (M A:List Int),totL p (M++A)=totL p M + totL p A
 | [],A=>by simp [totL]
 | x::M,A=>by rw [List.cons_append,totL,totL,totL_app p M A];omega
theorem totL_nonneg {p:Int→Int} (hp:∀ x,0≤p x):∀ l,0≤totL p l
 | []=>Int.le_refl _
 | x::l=>by rw [totL];have:=hp x;have:=totL_nonneg hp l;omega
theorem totL_le {p:Int→Int} {B:Int} (hp:∀ x,p x≤B):∀ l:List Int,totL p l≤B * (l.length:Int)
 | []=>by simp [totL]
 | x::l=>by rw [totL,List.length_cons];have:=hp x;have:=totL_le hp l;rw [Int.natCast_add,Int.mul_add];omega
theorem feasR_swap {p d:Int→Int} {L:Int} {l b:Int} {A:List Int} (hlb:p l≤p b) (hl:totL p (l::A)≤d l + L):∀ M,feasR p d L (M++b::A)→feasR p d L (M++l::A)∧sumR p (M++l::A)≤sumR p (M++b::A)
 | [],h=>⟨⟨hl,h.2⟩,by simp only [List.nil_append,sumR,totL];omega⟩
 | x::M,h=>by
  have ih:=feasR_swap hlb hl M h.2
  have e:totL p (x::(M++l::A))≤totL p (x::(M++b::A)):=by simp only [totL,totL_app];omega
  have h1:totL p (x::(M++b::A))≤d x + L:=h.1
  refine ⟨⟨?_,ih.1⟩,?_⟩
  ·show totL p (x::(M++l::A))≤d x + L
   omega
  ·show totL p (x::(M++l::A)) + sumR p (M++l::A)≤totL p (x::(M++b::A)) + sumR p (M++b::A)
   omega
theorem exchR {p d:Int→Int} {L:Int} (hp:∀ x,0≤p x) {r:List Int} {b:Int} (hb:b ∈ r) (hm:∀ y ∈ r,totL p r≤d y + L→p y≤p b) (hf:feasR p d L r):∃ r',(b::r').Perm r∧feasR p d L r'∧totL p r + sumR p r'≤sumR p r:=by
 cases r with
 | nil=>simp at hb
 | cons l t=>
  by_cases e:b=l
  ·subst e
   exact ⟨t,List.Perm.refl _,hf.2,Int.le_refl _⟩
  ·have hbt:b ∈ t:=by rcases List.mem_cons.1 hb with h|h;exact absurd h e;exact h
   obtain ⟨M,A,rfl⟩:=List.append_of_mem hbt
   have hl:=hm l List.mem_cons_self hf.1
   have h1:totL p (l::(M++b::A))≤d l + L:=hf.1
   have hl2:totL p (l::A)≤d l + L:=by
    simp only [totL,totL_app] at h1 ⊢
    have:=totL_nonneg hp M
    have:=hp b
    omega
   have h2:=feasR_swap hl hl2 M hf.2
   refine ⟨M++l::A,?_,h2.1,?_⟩
   ·have p1:(b::(M++l::A)).Perm (b::l::(M++A)):=List.Perm.cons _ List.perm_middle
    have p2:(l::(M++b::A)).Perm (l::b::(M++A)):=List.Perm.cons _ List.perm_middle
    exact (p1.trans (List.Perm.swap _ _ _)).trans p2.symm
   ·show totL p (l::(M++b::A)) + sumR p (M++l::A)≤totL p (l::(M++b::A)) + sumR p (M++b::A)
    omega
/-- Orders from their start. -/
def sumC (p:Int→Int):List Int→Int→Int
 | [],_=>0
 | x::l,t=>(t + p x) + sumC p l (t + p x)
def feasF (p d:Int→Int) (L:Int):List Int→Int→Prop
 | [],_=>True
 | x::l,t=>t + p x≤d x + L∧feasF p d L l (t + p x)
theorem sumC_snoc (p:Int→Int) (x:Int):∀ l t,sumC p (l++[x]) t=sumC p l t + (t + totL p l + p x)
 | [],t=>by simp only [List.nil_append,sumC,totL];omega
 | y::l,t=>by rw [List.cons_append,sumC,sumC,totL,sumC_snoc p x l];omega
theorem feasF_snoc (p d:Int→Int) (L:Int) (x:Int):∀ l t,feasF p d L (l++[x]) t ↔ feasF p d L l t∧t + totL p l + p x≤d x + L
 | [],t=>by simp only [List.nil_append,feasF,totL];constructor <;> intro h <;> simp at h ⊢ <;> omega
 | y::l,t=>by
  rw [List.cons_append,feasF,feasF,totL,feasF_snoc p d L x l]
  constructor
  ·rintro ⟨h1,h2,h3⟩;exact ⟨⟨h1,h2⟩,by omega⟩
  ·rintro ⟨⟨h1,h2⟩,h3⟩;exact ⟨h1,h2,by omega⟩
theorem rev_sum (p:Int→Int):∀ r:List Int,sumC p r.reverse 0=sumR p r
 | []=>rfl
 | x::r=>by rw [List.reverse_cons,sumC_snoc,rev_sum p r,sumR,totL_perm p (List.reverse_perm r),totL];omega
theorem rev_feas (p d:Int→Int) (L:Int):∀ r:List Int,feasF p d L r.reverse 0 ↔ feasR p d L r
 | []=>Iff.rfl
 | x::r=>by
  rw [List.reverse_cons,feasF_snoc,rev_feas p d L r,feasR,totL_perm p (List.reverse_perm r),totL]
  constructor
  ·rintro ⟨h1,h2⟩;exact ⟨by omega,h1⟩
  ·rintro ⟨h1,h2⟩;exact ⟨h2,by omega⟩
theorem sum_set0:∀ (l:List Int) (i:Nat) (v:Int),l[i]?=some 0→(l.set i v).sum=l.sum + v
 | [],_,_,h=>by simp at h
 | a::l,0,v,h=>by simp at h;subst h;simp;omega
 | a::l,i + 1,v,h=>by simp at h;simp [sum_set0 l i v h];omega

def pT (jobs:List J) (x:Int):Int:=(rd_T76 jobs x).f0
def dT (jobs:List J) (x:Int):Int:=(rd_T76 jobs x).f3
theorem rdJ_any (jobs:List J) (x:Int):rd_T76 jobs x ∈ jobs∨rd_T76 jobs x=z76:=by
 unfold rd_T76
 rw [List.getD_eq_getElem?_getD]
 cases h:jobs[x.toNat]? with
 | none=>right;rfl
 | some q=>left;exact List.mem_of_getElem? h
theorem pT_bd {jobs:List J} (hj:PlainOk jobs) (x:Int):0≤pT jobs x∧pT jobs x≤50:=by
 unfold pT
 rcases rdJ_any jobs x with h|h
 ·have:=hj.1.2 _ h;unfold JobOk at this;omega
 ·rw [h];exact ⟨by decide,by decide⟩
theorem dT_bd {jobs:List J} (hj:PlainOk jobs) (x:Int):0≤dT jobs x∧dT jobs x≤500:=by
 unfold dT
 rcases rdJ_any jobs x with h|h
 ·have:=hj.1.2 _ h;unfold JobOk at this;omega
 ·rw [h];exact ⟨by decide,by decide⟩
theorem rel0 {jobs:List J} (hj:PlainOk jobs) (x:Int):(rd_T76 jobs x).f2=0:=by
 rcases rdJ_any jobs x with h|h
 ·exact hj.2 _ h
 ·rw [h];decide
theorem endsF_keep (jobs:List J) (i:Nat):∀ (l out:List Int) (now:Int),(∀ x ∈ l,x.toNat≠i)→(endsF jobs l out now)[i]?=out[i]?
 | [],_,_,_=>rfl
 | x::l,out,now,h=>by
  rw [endsF,endsF_keep jobs i l _ _ (fun y hy=>h y (List.mem_cons_of_mem _ hy)),List.getElem?_set_ne (h x List.mem_cons_self)]
theorem endsF_facts {jobs:List J} (hj:PlainOk jobs) (L:Int):∀ (l out:List Int) (now:Int),0≤now→now + 50 * (l.length:Int)≤100000→(∀ x ∈ l,0≤x∧x<jobs.length)→l.Nodup→out.length=jobs.length→(∀ x ∈ l,out[x.toNat]?=some 0)→(endsF jobs l out now).sum=out.sum + sumC (pT jobs) l now∧((∀ x ∈ l,∀ e,(endsF jobs l out now)[x.toNat]?=some e→e≤dT jobs x + L) ↔ feasF (pT jobs) (dT jobs) L l now)
 | [],out,now,_,_,_,_,_,_=>by simp [endsF,sumC,feasF]
 | x::l,out,now,h0,h1,hx,hn,hlen,hz=>by
  have hn':=List.nodup_cons.1 hn
  have hb:=pT_bd hj x
  have hx0:=hx x List.mem_cons_self
  simp only [List.length_cons] at h1
  have hw:wrap64 (mx now (rd_T76 jobs x).f2 + (rd_T76 jobs x).f0)=now + pT jobs x:=by
   rw [rel0 hj x,show mx now 0=now by unfold mx;split <;> omega]
   exact wr (by unfold pT at hb;omega) (by unfold pT at hb;omega)
  have hne:∀ y ∈ l,y.toNat≠x.toNat:=fun y hy e=>by
   have:=hx y (List.mem_cons_of_mem _ hy)
   exact hn'.1 (by rw [show x=y by omega];exact hy)
  have ih:=endsF_facts hj L l (out.set x.toNat (now + pT jobs x)) (now + pT jobs x) (by omega) (by omega) (fun y hy=>hx y (List.mem_cons_of_mem _ hy)) hn'.2 (by simpa using hlen) (fun y hy=>by rw [List.getElem?_set_ne (fun e=>hne y hy e.symm)];exact hz y (List.mem_cons_of_mem _ hy))
  rw [endsF,hw,sumC,feasF]
  refine ⟨?_,?_⟩
  ·rw [ih.1,sum_set0 _ _ _ (hz x List.mem_cons_self)];omega
  ·have hk:(endsF jobs l (out.set x.toNat (now + pT jobs x)) (now + pT jobs x))[x.toNat]?=some (now + pT jobs x):=by
    rw [endsF_keep jobs x.toNat l _ _ hne,List.getElem?_set_self (by omega)]
   rw [←ih.2]
   constructor
   ·intro h
    exact ⟨h x List.mem_cons_self _ hk,fun y hy e he=>h y (List.mem_cons_of_mem _ hy) e he⟩
   ·rintro ⟨h2,h3⟩ y hy e he
    rcases List.mem_cons.1 hy with rfl|hy
    ·rw [hk] at he;injection he with he;omega
    ·exact h3 y hy e he
theorem valF_sum (jobs:List J) (ends:List Int) (hb:∀ e ∈ ends,0≤e∧e≤900):∀ (n i:Nat) (s:Int),i + n=ends.length→0≤s→s + 900 * (n:Int)≤1000000000→valF jobs ends 2 n i s=s + (ends.drop i).sum
 | 0,i,s,h,_,_=>by rw [valF,List.drop_of_length_le (by omega)];simp
 | n + 1,i,s,h,h0,h1=>by
  have hi:i<ends.length:=by omega
  have he:=hb _ (List.getElem_mem hi)
  rw [valF,rd_nat hi,drop_cons hi,List.sum_cons]
  have ha:addF s (rd_T76 jobs (i:Int)) ends[i] 2 (decide (i=0))=s + ends[i]:=by
   unfold addF
   rw [if_neg (by omega),if_pos rfl,wr (by omega) (by omega)]
  rw [ha,valF_sum jobs ends hb n (i + 1) _ (by omega) (by omega) (by omega)]
  omega
theorem addF_late (s:Int) (j:J) (e:Int) (b:Bool) (he:0≤e∧e≤900) (hj:0≤j.f3∧j.f3≤500):addF s j e 4 b=if b=true then e - j.f3 else mx s (e - j.f3):=by
 unfold addF
 rw [if_neg (by omega),if_neg (by omega),if_neg (by omega),if_pos rfl,wr (x:=e - j.f3) (by omega) (by omega)]
theorem mx_le {a b L:Int} : mx a b≤L ↔ a≤L∧b≤L:=by unfold mx;split <;> omega
theorem valF_late {jobs:List J} (hj:PlainOk jobs) (ends:List Int) (hl:ends.length=jobs.length) (hb:∀ e ∈ ends,0≤e∧e≤900) (L:Int):∀ (n i:Nat) (s:Int),0<i→i + n=jobs.length→(valF jobs ends 4 n i s≤L ↔ s≤L∧∀ j,i≤j→j<jobs.length→rd ends (j:Int)≤dT jobs (j:Int) + L)
 | 0,i,s,_,h=>by
  rw [valF]
  exact ⟨fun h1=>⟨h1,fun j h2 h3=>by omega⟩,fun h1=>h1.1⟩
 | n + 1,i,s,h0,h=>by
  have hi:i<ends.length:=by omega
  have he:=hb _ (List.getElem_mem hi)
  have hd:=dT_bd hj (i:Int)
  have hr:=rd_nat hi
  rw [valF,addF_late _ _ _ _ (by rw [hr];exact he) hd,if_neg (by simp;omega),valF_late hj ends hl hb L n (i + 1) _ (by omega) (by omega),mx_le]
  constructor
  ·rintro ⟨⟨h1,h2⟩,h3⟩
   refine ⟨h1,fun j hj1 hj2=>?_⟩
   by_cases e:j=i
   ·subst e;unfold dT;omega
   ·exact h3 j (by omega) hj2
  ·rintro ⟨h1,h2⟩
   refine ⟨⟨h1,?_⟩,fun j hj1 hj2=>h2 j (by omega) hj2⟩
   have:=h2 i (Nat.le_refl _) (by omega)
   unfold dT at this;omega
theorem pt_late {jobs:List J} (hj:PlainOk jobs) {l:List Int} (hl:IsPerm jobs.length l):(pointF jobs 2 4 l).1=sumR (pT jobs) l.reverse∧(0<jobs.length→∀ L,(pointF jobs 2 4 l).2≤L ↔ feasR (pT jobs) (dT jobs) L l.reverse):=by
 have h8:=hj.1.1
 have ht:TwoOk jobs l:=⟨hj.1,hl⟩
 have hlen:=endsAll_len jobs l
 have hz:∀ x ∈ l,(List.replicate jobs.length (0:Int))[x.toNat]?=some 0:=fun x hx=>by
  have:=hl.2.2 x hx
  rw [List.getElem?_replicate,if_pos (by omega)]
 have facts:=fun L=>endsF_facts hj L l (List.replicate jobs.length 0) 0 (by omega) (by have:=hl.1;omega) hl.2.2 hl.2.1 (by simp) hz
 have hb:∀ e ∈ endsAll jobs l,0≤e∧e≤900:=fun e hm=>⟨endsAll_nonneg jobs l ht e hm,endsAll_le jobs l ht e hm⟩
 refine ⟨?_,fun hn L=>?_⟩
 ·show valF jobs (endsAll jobs l) 2 jobs.length 0 0=_
  rw [valF_sum jobs _ hb _ _ _ (by omega) (by omega) (by omega),List.drop_zero,←rev_sum,List.reverse_reverse]
  have:=(facts 0).1
  rw [show (List.replicate jobs.length (0:Int)).sum=0 by simp] at this
  rw [endsAll,this];omega
 ·show valF jobs (endsAll jobs l) 4 jobs.length 0 0≤L ↔ _
  rw [←rev_feas,List.reverse_reverse,←(facts L).2]
  obtain ⟨n,hn'⟩:∃ n,jobs.length=n + 1:=⟨jobs.length - 1,by omega⟩
  have h0:0<(endsAll jobs l).length:=by omega
  have hd:=dT_bd hj ((0:Nat):Int)
  have e0:valF jobs (endsAll jobs l) 4 jobs.length 0 0=valF jobs (endsAll jobs l) 4 n 1 (rd (endsAll jobs l) ((0:Nat):Int) - dT jobs ((0:Nat):Int)):=by
   rw [hn',valF,addF_late _ _ _ _ (by rw [rd_nat h0];exact hb _ (List.getElem_mem h0)) hd,if_pos (by simp)]
   rfl
  rw [e0,valF_late hj _ hlen hb L n 1 _ (by omega) (by omega)]
  constructor
  ·rintro ⟨h1,h2⟩ x hx e he
   have hx2:=hl.2.2 x hx
   have he':(endsAll jobs l)[x.toNat]?=some e:=he
   have hr:rd (endsAll jobs l) ((x.toNat:Nat):Int)=e:=by
    have hlt:x.toNat<(endsAll jobs l).length:=by omega
    rw [rd_nat hlt]
    rw [List.getElem?_eq_getElem hlt] at he'
    exact Option.some.inj he'
   have hxx:((x.toNat:Nat):Int)=x:=by omega
   by_cases e0:x.toNat=0
   ·rw [e0] at hr
    have:x=((0:Nat):Int):=by omega
    rw [this];omega
   ·have:=h2 x.toNat (by omega) (by omega)
    rw [hr,hxx] at this;exact this
  ·intro h
   have at_:∀ j,j<jobs.length→rd (endsAll jobs l) (j:Int)≤dT jobs (j:Int) + L:=fun j hjl=>by
    have hm:=hl.all (j:Int) (by omega) (by omega)
    have hlt:j<(endsAll jobs l).length:=by omega
    rw [rd_nat hlt]
    exact h (j:Int) hm _ (by rw [Int.toNat_natCast];exact List.getElem?_eq_getElem hlt)
   refine ⟨by have:=at_ 0 hn;omega,fun j _ h2=>at_ j h2⟩

theorem timeF_tot {jobs:List J} (hj:PlainOk jobs):∀ (l:List Int) (s:Int),0≤s→s + 50 * (l.length:Int)≤100000→timeF jobs l s=s + totL (pT jobs) l
 | [],s,_,_=>by simp [timeF,totL]
 | x::l,s,h0,h1=>by
  have hb:=pT_bd hj x
  simp only [List.length_cons] at h1
  rw [timeF,show wrap64 (s + (rd_T76 jobs x).f0)=s + pT jobs x from wr (by unfold pT at hb;omega) (by unfold pT at hb;omega),timeF_tot hj l _ (by omega) (by omega),totL]
  omega
theorem backF_best {jobs:List J} (hj:PlainOk jobs) (lim e:Int) (hlim : -1000≤lim∧lim≤1000):∀ (l:List Int) (c:Int),(∀ x ∈ l,0≤x)→(0≤c∨c= -1)→(backF jobs lim e l c=c∨(backF jobs lim e l c ∈ l∧e≤dT jobs (backF jobs lim e l c) + lim))∧(∀ x ∈ l,e≤dT jobs x + lim→0≤backF jobs lim e l c∧pT jobs x≤pT jobs (backF jobs lim e l c))∧(0≤c→0≤backF jobs lim e l c∧pT jobs c≤pT jobs (backF jobs lim e l c))
 | [],c,_,_=>by simp [backF]
 | x::l,c,hx,hc=>by
  have hd:=dT_bd hj x
  have hw:wrap64 ((rd_T76 jobs x).f3 + lim)=dT jobs x + lim:=wr (by unfold dT at hd;omega) (by unfold dT at hd;omega)
  have hx0:=hx x List.mem_cons_self
  rw [backF,hw]
  by_cases q1:dT jobs x + lim≥e
  ·rw [if_pos q1]
   by_cases q2:c<0∨(rd_T76 jobs x).f0≥(rd_T76 jobs c).f0
   ·have ec:(if c<0 then x else if (rd_T76 jobs x).f0≥(rd_T76 jobs c).f0 then x else c)=x:=by
     rcases q2 with q2|q2
     ·rw [if_pos q2]
     ·rw [if_pos q2];split <;> rfl
    rw [ec]
    have ih:=backF_best hj lim e hlim l x (fun y hy=>hx y (List.mem_cons_of_mem _ hy)) (.inl hx0)
    have ih3:=ih.2.2 hx0
    refine ⟨.inr ?_,fun y hy hye=>?_,fun h0=>⟨ih3.1,?_⟩⟩
    ·rcases ih.1 with h|h
     ·rw [h];exact ⟨List.mem_cons_self,q1⟩
     ·exact ⟨List.mem_cons_of_mem _ h.1,h.2⟩
    ·rcases List.mem_cons.1 hy with rfl|hy
     ·exact ih3
     ·exact ih.2.1 y hy hye
    ·rcases q2 with q2|q2
     ·omega
     ·have:pT jobs c≤pT jobs x:=q2
      omega
   ·have ec:(if c<0 then x else if (rd_T76 jobs x).f0≥(rd_T76 jobs c).f0 then x else c)=c:=by
     rw [if_neg (fun h=>q2 (.inl h)),if_neg (fun h=>q2 (.inr h))]
    rw [ec]
    have ih:=backF_best hj lim e hlim l c (fun y hy=>hx y (List.mem_cons_of_mem _ hy)) hc
    have hc0:0≤c:=by
     by_cases h:c<0
     ·exact absurd (.inl h) q2
     ·omega
    have ih3:=ih.2.2 hc0
    have hpx:pT jobs x≤pT jobs c:=by
     have:¬ (rd_T76 jobs x).f0≥(rd_T76 jobs c).f0:=fun h=>q2 (.inr h)
     unfold pT;omega
    refine ⟨?_,fun y hy hye=>?_,fun _=>ih3⟩
    ·rcases ih.1 with h|h
     ·exact .inl h
     ·exact .inr ⟨List.mem_cons_of_mem _ h.1,h.2⟩
    ·rcases List.mem_cons.1 hy with rfl|hy
     ·exact ⟨ih3.1,by omega⟩
     ·exact ih.2.1 y hy hye
  ·rw [if_neg q1]
   have ih:=backF_best hj lim e hlim l c (fun y hy=>hx y (List.mem_cons_of_mem _ hy)) hc
   refine ⟨?_,fun y hy hye=>?_,ih.2.2⟩
   ·rcases ih.1 with h|h
    ·exact .inl h
    ·exact .inr ⟨List.mem_cons_of_mem _ h.1,h.2⟩
   ·rcases List.mem_cons.1 hy with rfl|hy
    ·omega
    ·exact ih.2.1 y hy hye
theorem spec_l11Back.opt {jobs:List J} (hj:PlainOk jobs) (lim:Int) (hlim : -1000≤lim∧lim≤1000):∀ (m:Nat) (U acc:List Int),U.length=m→U.Nodup→(∀ x ∈ U,0≤x∧x<(jobs.length:Int))→acc.length + m≤1000→m≤1000→
  (Ev (fun k=>spec_l11Back.l0 k jobs lim acc U) ([],false)∧∀ r,r.Perm U→¬ feasR (pT jobs) (dT jobs) lim r)∨
  ∃ s,Ev (fun k=>spec_l11Back.l0 k jobs lim acc U) (s.reverse++acc,true)∧s.Perm U∧feasR (pT jobs) (dT jobs) lim s∧∀ r,r.Perm U→feasR (pT jobs) (dT jobs) lim r→sumR (pT jobs) s≤sumR (pT jobs) r
 | 0,U,acc,hU,_,_,_,_=>by
  obtain rfl:=List.eq_nil_of_length_eq_zero hU
  right
  refine ⟨[],ev_stop fun k=>?_,List.Perm.refl _,trivial,fun r hr _=>by have:=hr.eq_nil;subst this;exact Int.le_refl _⟩
  simp only [spec_l11Back.l0];rw [if_neg (by simp)];rfl
 | m + 1,U,acc,hU,hn,hx,ha,hm=>by
  obtain ⟨w0,hs⟩:=spec_l4Sums.ev jobs U (by omega) hx
  have hp:=fun x=>(pT_bd hj x).1
  have htot:timeF jobs U 0=totL (pT jobs) U:=by rw [timeF_tot hj U 0 (by omega) (by omega)];omega
  have hbest:=backF_best hj lim (timeF jobs U 0) hlim U (-1) (fun x h=>(hx x h).1) (.inr rfl)
  have up1:∀ R,Ev (fun k=>spec_l11Back.l1 k jobs lim acc U (timeF jobs U 0) (backF jobs lim (timeF jobs U 0) U (-1)) (U.length:Int)) R→Ev (fun k=>spec_l11Back.l0 k jobs lim acc U) R:=fun R hR=>by
   refine ev_go (fun k=>(spec_l4Sums.f k jobs U).bind fun bt142=>spec_l11Back.l1 k jobs lim acc U bt142.2 (-1) 0) (fun k=>?_) (ev_bind _ hs (spec_l11Back.inner jobs lim _ acc _ (by omega) hx R hR))
   simp only [spec_l11Back.l0];rw [if_pos (by omega)]
  obtain ⟨b,hb⟩:∃ b,b=backF jobs lim (timeF jobs U 0) U (-1):=⟨_,rfl⟩
  rw [←hb] at hbest up1
  rw [htot] at hbest
  rcases hbest.1 with h1 | ⟨hbU,hbe⟩
  ·left
   refine ⟨up1 _ (ev_stop fun k=>?_),fun r hr hf=>?_⟩
   ·simp only [spec_l11Back.l1];rw [if_neg (by omega),if_pos (by omega)]
   ·cases r with
    | nil=>have:=hr.length_eq;simp at this;omega
    | cons x r=>
     have hxU:x ∈ U:=hr.subset List.mem_cons_self
     have h2:totL (pT jobs) (x::r)≤dT jobs x + lim:=hf.1
     rw [totL_perm _ hr] at h2
     have:=(hbest.2.1 x hxU h2).1
     omega
  ·have hb0:=hx b hbU
   have hfe:U.filter (fun y=>decide (y ∉ [b]))=U.erase b:=by
    rw [hn.erase_eq_filter]
    congr 1
    funext y
    simp [bne,Bool.beq_eq_decide_eq]
   have hpU:U.Perm (b::U.erase b):=List.perm_cons_erase hbU
   have step:∀ R,Ev (fun k=>spec_l11Back.l0 k jobs lim (b::acc) (U.erase b)) R→Ev (fun k=>spec_l11Back.l0 k jobs lim acc U) R:=fun R hR=>by
    refine up1 _ (ev_go (fun k=>(spec_l4Rest.f k U [b]).bind fun t=>spec_l11Back.l0 k jobs lim (b::acc) t) (fun k=>?_) (ev_bind (U.erase b) (by rw [←hfe];exact spec_l4Rest.ev U [b] (by omega) (by simp)) hR))
    simp only [spec_l11Back.l1];rw [if_neg (by omega),if_neg (by omega)]
    simp only [Option.bind_some]
    rw [if_pos (by simp;omega)]
    rfl
   have down:∀ r,r.Perm U→feasR (pT jobs) (dT jobs) lim r→∃ r',r'.Perm (U.erase b)∧feasR (pT jobs) (dT jobs) lim r'∧totL (pT jobs) U + sumR (pT jobs) r'≤sumR (pT jobs) r:=fun r hr hf=>by
    obtain ⟨r',h1,h2,h3⟩:=exchR hp (hr.mem_iff.2 hbU) (fun y hy hye=>(hbest.2.1 y (hr.subset hy) (by rw [←totL_perm _ hr];exact hye)).2) hf
    rw [totL_perm _ hr] at h3
    exact ⟨r',((h1.trans hr).trans hpU).cons_inv,h2,h3⟩
   have htU:∀ r,r.Perm (U.erase b)→totL (pT jobs) (b::r)=totL (pT jobs) U:=fun r hr=>totL_perm _ ((List.Perm.cons b hr).trans hpU.symm)
   rcases spec_l11Back.opt hj lim hlim m (U.erase b) (b::acc) (by rw [List.length_erase_of_mem hbU];omega) (hn.erase b) (fun x h=>hx x (List.mem_of_mem_erase h)) (by simp;omega) (by omega) with ⟨h1,h2⟩ | ⟨s,h1,h2,h3,h4⟩
   ·left
    refine ⟨step _ h1,fun r hr hf=>?_⟩
    obtain ⟨r',h5,h6,_⟩:=down r hr hf
    exact h2 r' h5 h6
   ·right
    refine ⟨b::s,?_,(List.Perm.cons b h2).trans hpU.symm,⟨by rw [htU s h2];exact hbe,h3⟩,fun r hr hf=>?_⟩
    ·have:=step _ h1
     rw [List.reverse_cons,List.append_assoc];exact this
    ·obtain ⟨r',h5,h6,h7⟩:=down r hr hf
     have h8:=h4 r' h5 h6
     show totL (pT jobs) (b::s) + sumR (pT jobs) s≤sumR (pT jobs) r
     rw [htU s h2];omega

/-- What a front of a list of points is: strictly by the first value, made of these points, none below another, each point above one of them. -/
structure IsFront (s D:List A2):Prop where
 sorted:FrS s
 sub:∀ q ∈ s,q ∈ D
 anti:∀ q ∈ s,∀ r ∈ s,frLe q r=true→q=r
 dom:∀ p ∈ D,∃ q ∈ s,frLe q p=true
theorem frLe_refl (p:A2):frLe p p=true:=frLe_iff.2 ⟨Int.le_refl _,Int.le_refl _⟩
theorem frLe_trans {p q r:A2} (h1:frLe p q=true) (h2:frLe q r=true):frLe p r=true:=by
 rw [frLe_iff] at h1 h2 ⊢;omega
theorem frLe_anti {p q:A2} (h1:frLe p q=true) (h2:frLe q p=true):p=q:=by
 rw [frLe_iff] at h1 h2
 obtain ⟨a,b⟩:=p;obtain ⟨c,d⟩:=q
 simp only at h1 h2
 rw [show a=c by omega,show b=d by omega]
theorem IsFront.put {s D:List A2} (h:IsFront s D) (p:A2):IsFront (frPut p s) (D++[p]):=by
 refine ⟨frPut_sorted h.sorted,fun q hq=>?_,fun q hq r hr hle=>?_,fun x hx=>?_⟩
 ·rcases frPut_mem h.sorted hq with rfl|hq
  ·exact List.mem_append.2 (.inr (List.mem_singleton.2 rfl))
  ·exact List.mem_append.2 (.inl (h.sub q hq))
 ·by_cases c:s.any (fun q=>frLe q p)=true
  ·rw [frPut,if_pos c] at hq hr
   exact h.anti q hq r hr hle
  ·rw [frPut_no h.sorted c,insL_mem] at hq hr
   have no:∀ z ∈ s,¬ frLe z p=true:=fun z hz h2=>c (List.any_eq_true.2 ⟨z,hz,h2⟩)
   rcases hq with rfl|hq <;> rcases hr with rfl|hr
   ·rfl
   ·have:=(List.mem_filter.1 hr).2
    rw [hle] at this;simp at this
   ·exact absurd hle (no q (List.mem_filter.1 hq).1)
   ·exact h.anti q (List.mem_filter.1 hq).1 r (List.mem_filter.1 hr).1 hle
 ·by_cases c:s.any (fun q=>frLe q p)=true
  ·rw [frPut,if_pos c]
   rcases List.mem_append.1 hx with hx|hx
   ·exact h.dom x hx
   ·rw [List.mem_singleton] at hx;subst hx
    obtain ⟨q,h1,h2⟩:=List.any_eq_true.1 c
    exact ⟨q,h1,h2⟩
  ·rw [frPut_no h.sorted c]
   rcases List.mem_append.1 hx with hx|hx
   ·obtain ⟨q,hq,hle⟩:=h.dom x hx
    by_cases e:frLe p q=true
    ·exact ⟨p,(insL_mem _ _ _).2 (.inl rfl),frLe_trans e hle⟩
    ·exact ⟨q,(insL_mem _ _ _).2 (.inr (List.mem_filter.2 ⟨hq,by simpa using e⟩)),hle⟩
   ·rw [List.mem_singleton] at hx;subst hx
    exact ⟨x,(insL_mem _ _ _).2 (.inl rfl),frLe_refl x⟩
theorem isFront_fold:∀ (E:List A2) (s D:List A2),IsFront s D→IsFront (E.foldl (fun s p=>frPut p s) s) (D++E)
 | [],s,D,h=>by simpa using h
 | p::E,s,D,h=>by
  have:=isFront_fold E _ _ (h.put p)
  rw [List.append_assoc] at this
  exact this
theorem isFront_nil:IsFront [] []:=⟨List.Pairwise.nil,by simp,by simp,by simp⟩
theorem frS_eq:∀ {a b:List A2},FrS a→FrS b→(∀ q,q ∈ a ↔ q ∈ b)→a=b
 | [],[],_,_,_=>rfl
 | [],y::b,_,_,h=>by have:=(h y).2 List.mem_cons_self;simp at this
 | x::a,[],_,_,h=>by have:=(h x).1 List.mem_cons_self;simp at this
 | x::a,y::b,ha,hb,h=>by
  have ha':=List.pairwise_cons.1 ha
  have hb':=List.pairwise_cons.1 hb
  have e:x=y:=by
   rcases List.mem_cons.1 ((h x).1 List.mem_cons_self) with e|h1
   ·exact e
   ·rcases List.mem_cons.1 ((h y).2 List.mem_cons_self) with e|h2
    ·exact e.symm
    ·have:=hb'.1 x h1;have:=ha'.1 y h2;omega
  subst e
  congr 1
  refine frS_eq ha'.2 hb'.2 fun q=>⟨fun hq=>?_,fun hq=>?_⟩
  ·rcases List.mem_cons.1 ((h q).1 (List.mem_cons_of_mem _ hq)) with e|h1
   ·subst e;have:=ha'.1 _ hq;omega
   ·exact h1
  ·rcases List.mem_cons.1 ((h q).2 (List.mem_cons_of_mem _ hq)) with e|h1
   ·subst e;have:=hb'.1 _ hq;omega
   ·exact h1
theorem front_uniq {s t D E:List A2} (hs:IsFront s D) (ht:IsFront t E) (h1:∀ p ∈ D,∃ q ∈ E,frLe q p=true) (h2:∀ p ∈ E,∃ q ∈ D,frLe q p=true):s=t:=by
 have half:∀ {s t D E:List A2},IsFront s D→IsFront t E→(∀ p ∈ D,∃ q ∈ E,frLe q p=true)→(∀ p ∈ E,∃ q ∈ D,frLe q p=true)→∀ q,q ∈ s→q ∈ t:=by
  intro s t D E hs ht h1 h2 q hq
  obtain ⟨x,hx,l1⟩:=h1 q (hs.sub q hq)
  obtain ⟨y,hy,l2⟩:=ht.dom x hx
  obtain ⟨z,hz,l3⟩:=h2 y (ht.sub y hy)
  obtain ⟨u,hu,l4⟩:=hs.dom z hz
  have l5:=frLe_trans l4 (frLe_trans l3 (frLe_trans l2 l1))
  have e:=hs.anti u hu q hq l5
  subst e
  have:y=u:=frLe_anti (frLe_trans l2 l1) (frLe_trans l4 l3)
  rw [←this];exact hy
 exact frS_eq hs.sorted ht.sorted fun q=>⟨half hs ht h1 h2 q,half ht hs h2 h1 q⟩

theorem late_low {jobs:List J} (hj:PlainOk jobs) (hn:0<jobs.length) {l:List Int} (hl:IsPerm jobs.length l) : -500≤(pointF jobs 2 4 l).2:=by
 have h:=((pt_late hj hl).2 hn (pointF jobs 2 4 l).2).1 (Int.le_refl _)
 have hlen:=hl.1
 cases hr:l.reverse with
 | nil=>have:=congrArg List.length hr;rw [List.length_reverse,List.length_nil] at this;omega
 | cons x r=>
  rw [hr] at h
  have h1:totL (pT jobs) (x::r)≤dT jobs x + (pointF jobs 2 4 l).2:=h.1
  have:=dT_bd hj x
  have:=totL_nonneg (fun x=>(pT_bd hj x).1) (x::r)
  omega
theorem late_loop {jobs:List J} (hj:PlainOk jobs) (hn:0<jobs.length):∀ (N:Nat) (lim:Int) (out:List A2),lim≤(N:Int) - 600→ -600≤lim→lim≤400→FrQ (ptF jobs 2 4) jobs.length out→
  ∃ D:List A2,(∀ p ∈ D,∃ l ∈ perms jobs.length (nums_to jobs.length),ptF jobs 2 4 l=p)∧(∀ l,IsPerm jobs.length l→(pointF jobs 2 4 l).2≤lim→∃ p ∈ D,frLe p (ptF jobs 2 4 l)=true)∧Ev (fun k=>(spec_l11Back.f k jobs lim).bind fun bt=>spec_LatenessFront.l0 k jobs out bt.1 bt.2) (D.foldl (fun s p=>frPut p s) out,true)
 | N,lim,out,hN,hlo,hhi,hq=>by
  have h8:=hj.1.1
  have obj2:1≤(2:Int)∧(2:Int)≤8:=⟨by omega,by omega⟩
  have obj4:1≤(4:Int)∧(4:Int)≤8:=⟨by omega,by omega⟩
  have hU:=spec_l11Back.opt hj lim (by omega) jobs.length (nums_to jobs.length) [] (nums_to_length _) (nums_to_nodup _) (fun x hx=>mem_nums_to.1 hx) (by simp;omega) (by omega)
  have perm_of:∀ l,IsPerm jobs.length l→l.reverse.Perm (nums_to jobs.length):=fun l hl=>(List.reverse_perm l).trans (perms_perm _ _ _ (nums_to_length _) (isPerm_perms hl))
  have back:∀ R,Ev (fun k=>spec_l11Back.l0 k jobs lim [] (nums_to jobs.length)) R→Ev (fun k=>spec_l11Back.f k jobs lim) R:=fun R hR=>by
   unfold spec_l11Back.f
   exact ev_bind _ (spec_l6All.ev jobs h8) hR
  rcases hU with ⟨h1,h2⟩ | ⟨s,h1,h2,h3,h4⟩
  ·refine ⟨[],by simp,fun l hl hle=>absurd (((pt_late hj hl).2 hn lim).1 hle) (h2 _ (perm_of l hl)),ev_bind _ (back _ h1) ?_⟩
   refine ev_stop fun k=>?_
   simp only [spec_LatenessFront.l0];rw [if_neg (by simp)];rfl
  ·rw [List.append_nil] at h1
   have hsp:IsPerm jobs.length s.reverse:=by
    have hp2:s.reverse.Perm (nums_to jobs.length):=(List.reverse_perm s).trans h2
    exact ⟨by rw [hp2.length_eq,nums_to_length],hp2.nodup_iff.2 (nums_to_nodup _),fun x hx=>mem_nums_to.1 (hp2.subset hx)⟩
   have hpt:=pt_late hj hsp
   rw [List.reverse_reverse] at hpt
   have hp2:(pointF jobs 2 4 s.reverse).2≤lim:=(hpt.2 hn lim).2 h3
   have hlow:=late_low hj hn hsp
   cases N with
   | zero=>omega
   | succ N=>
    have hq2:=hq.put (isPerm_perms hsp)
    obtain ⟨D,d1,d2,d3⟩:=late_loop hj hn N ((pointF jobs 2 4 s.reverse).2 - 1) (frPut (ptF jobs 2 4 s.reverse) out) (by omega) (by omega) (by omega) hq2
    refine ⟨ptF jobs 2 4 s.reverse::D,fun p hp=>?_,fun l hl hle=>?_,ev_bind _ (back _ h1) ?_⟩
    ·rcases List.mem_cons.1 hp with rfl|hp
     ·exact ⟨_,isPerm_perms hsp,rfl⟩
     ·exact d1 p hp
    ·by_cases c:(pointF jobs 2 4 l).2≤(pointF jobs 2 4 s.reverse).2 - 1
     ·obtain ⟨p,hp,hle⟩:=d2 l hl c
      exact ⟨p,List.mem_cons_of_mem _ hp,hle⟩
     ·refine ⟨_,List.mem_cons_self,frLe_iff.2 ⟨?_,?_⟩⟩
      ·show (pointF jobs 2 4 s.reverse).1≤(pointF jobs 2 4 l).1
       rw [hpt.1,(pt_late hj hl).1]
       exact h4 _ (perm_of l hl) (((pt_late hj hl).2 hn lim).1 hle)
      ·show (pointF jobs 2 4 s.reverse).2≤(pointF jobs 2 4 l).2
       omega
    ·have hsl:=hq.len (by omega)
     refine ev_go (fun k=>(spec_l11Point.f k jobs s.reverse 2 4).bind fun bt235=>((spec_l11Put.f k out bt235.1 bt235.2).bind fun t238=>(if (jobs.length:Int)=0 then (some (t238,true)) else ((spec_l11Back.f k jobs (wrap64 (bt235.2 - 1))).bind fun bt241=>(spec_LatenessFront.l0 k jobs t238 bt241.1 bt241.2))))) (fun k=>?_) (ev_bind _ (spec_l11Point.ev jobs s.reverse 2 4 ⟨hj.1,hsp⟩ obj2 obj4) (ev_bind _ (spec_l11Put.ev out (ptF jobs 2 4 s.reverse) (by omega) hq.1) ?_))
     ·simp only [spec_LatenessFront.l0];rw [if_pos trivial]
     ·simp only [if_neg (show ¬ (jobs.length:Int)=0 by omega)]
      rw [show wrap64 ((pointF jobs 2 4 s.reverse).2 - 1)=(pointF jobs 2 4 s.reverse).2 - 1 from wr (by omega) (by omega)]
      exact d3
theorem core_LatenessFront (jobs:List J) (hj:jobs.length≤1048576):∃ r b,Ev (fun k=>spec_LatenessFront.f k jobs) (r,b)∧Ev (fun k=>impl_LatenessFront.f k jobs) (r,b)∧r.length≤1048576:=by
 unfold spec_LatenessFront.f impl_LatenessFront.f
 have es:=spec_l6Good.ev jobs (by omega)
 have ei:=impl_IsPlain.ev jobs (by omega)
 simp only [Option.bind_some]
 by_cases h:PlainOk jobs
 ·have h8:=h.1.1
  have obj2:1≤(2:Int)∧(2:Int)≤8:=⟨by omega,by omega⟩
  have obj4:1≤(4:Int)∧(4:Int)≤8:=⟨by omega,by omega⟩
  have hi:=impl_frontOf.ev jobs 2 4 h.1
  have hlen:=frontF_len0 jobs 2 4 h.1
  refine ⟨frontF jobs 2 4,true,ev_guard' es (fun _=>?_) (fun hn=>absurd h hn),ev_guard' ei (fun _=>ev_bind _ hi (Ev.now _)) (fun hn=>absurd h hn),by omega⟩
  by_cases hn:0<jobs.length
  ·obtain ⟨D,d1,d2,d3⟩:=late_loop h hn 1000 400 [] (by omega) (by omega) (by omega) ⟨List.Pairwise.nil,by simp⟩
   have all400:∀ l,IsPerm jobs.length l→(pointF jobs 2 4 l).2≤400:=fun l hl=>by
    refine ((pt_late h hl).2 hn 400).2 ?_
    have gen:∀ r:List Int,r.length≤8→feasR (pT jobs) (dT jobs) 400 r:=by
     intro r
     induction r with
     | nil=>intro _;trivial
     | cons x r ih=>
      intro hr
      have h1:=totL_le (fun x=>(pT_bd h x).2) (x::r)
      have h2:=dT_bd h x
      exact ⟨by omega,ih (by simp at hr;omega)⟩
    exact gen _ (by have:=hl.1;simp;omega)
   have e:frontF jobs 2 4=(((perms jobs.length (nums_to jobs.length)).map fun l=>ptF jobs 2 4 l)).foldl (fun s p=>frPut p s) []:=by
    rw [frontF,List.foldl_map]
   have f1:=isFront_fold ((perms jobs.length (nums_to jobs.length)).map fun l=>ptF jobs 2 4 l) [] [] isFront_nil
   have f2:=isFront_fold D [] [] isFront_nil
   rw [←e] at f1
   have hu:=front_uniq f2 f1 (fun p hp=>by
    obtain ⟨l,hl,e⟩:=d1 p hp
    exact ⟨p,List.mem_map.2 ⟨l,hl,e⟩,frLe_refl p⟩) (fun p hp=>by
    obtain ⟨l,hl,e⟩:=List.mem_map.1 (show p ∈ (perms jobs.length (nums_to jobs.length)).map fun l=>ptF jobs 2 4 l from hp)
    have hlp:=perms_isPerm hl
    rw [←e]
    exact d2 l hlp (all400 l hlp))
   rw [←hu]
   exact d3
  ·obtain rfl:jobs=[]:=List.eq_nil_of_length_eq_zero (by omega)
   have hU:=spec_l11Back.opt h 400 (by omega) 0 [] [] rfl List.nodup_nil (by simp) (by simp) (by omega)
   have hb:Ev (fun k=>spec_l11Back.f k ([]:List J) 400) ([],true):=by
    unfold spec_l11Back.f
    refine ev_bind _ (spec_l6All.ev ([]:List J) (by simp)) (ev_stop fun k=>?_)
    simp only [spec_l11Back.l0];rw [if_neg (by simp [nums_to])]
   have hsp:IsPerm ([]:List J).length ([]:List Int):=⟨rfl,List.nodup_nil,by simp⟩
   refine ev_bind _ hb (ev_go (fun k=>(spec_l11Point.f k ([]:List J) [] 2 4).bind fun bt235=>((spec_l11Put.f k ([]:List A2) bt235.1 bt235.2).bind fun t238=>some (t238,true))) (fun k=>?_) (ev_bind _ (spec_l11Point.ev [] [] 2 4 ⟨h.1,hsp⟩ obj2 obj4) (ev_bind _ (spec_l11Put.ev [] (ptF [] 2 4 []) (by simp) List.Pairwise.nil) (Ev.now _))))
   simp only [spec_LatenessFront.l0];rw [if_pos trivial]
   simp
 ·refine ⟨[],false,ev_guard' es (fun h1=>absurd h1 h) (fun _=>Ev.now _),ev_guard' ei (fun h1=>absurd h1 h) (fun _=>Ev.now _),by simp⟩

end Go.Proofs.Ytbcfmegepkhlpaa.Pure
-- minified
