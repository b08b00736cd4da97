/- Proved here: what functions that the law FnExactFrontOrder reaches answer (frontP, permsAll, spec_l11Put, frontBoth, core_FrontOrder). Conditions: those that each theorem names. -/
import Derived.Test.YtbblhmpcpmamfaaQFnExactFrontOrdera
set_option linter.unusedVariables false
set_option linter.unusedSimpArgs false
namespace Go.Proofs.Ytbblhmpcpmamfaa.Pure
open Go.RowKit Go.Proofs.Ytbblhmpcpmamfaa.XFnExactFrontOrder Go.Proofs.YtbblhmpcpmamfaaW.PrintWords Go.Proofs.YtbblhmpcpmamfaaW.PrintLast

def insL (p:A2):List A2→List A2
 | []=>[p]
 | q::l=>if q.f0>p.f0 then p::q::l else q::insL p l
def FrS (l:List A2):Prop:=l.Pairwise fun a b=>a.f0<b.f0
theorem insL_at (p:A2):∀ {l:List A2},FrS l→∃ j,j≤l.length∧insL p l=l.take j++p::l.drop j∧(∀ i (h:i<l.length),i<j→l[i].f0≤p.f0)∧(∀ i (h:i<l.length),j≤i→p.f0<l[i].f0)
 | [],_=>⟨0,Nat.le_refl _,rfl,fun i h=>by simp at h,fun i h=>by simp at h⟩
 | q::l,hs=>by
  have hs':=List.pairwise_cons.1 hs
  by_cases c:q.f0>p.f0
  ·refine ⟨0,Nat.zero_le _,by simp [insL,c],fun i h hi=>absurd hi (by omega),fun i h _=>?_⟩
   cases i with
   | zero=>exact c
   | succ i=>
    have:=hs'.1 _ (List.getElem_mem (show i<l.length by simpa using h))
    simp only [List.getElem_cons_succ];omega
  ·obtain ⟨j,h1,h2,h3,h4⟩:=insL_at p hs'.2
   refine ⟨j + 1,by simp;omega,by simp [insL,c,h2],fun i h hi=>?_,fun i h hi=>?_⟩
   ·cases i with
    | zero=>simp only [List.getElem_cons_zero];omega
    | succ i=>exact h3 i (by simpa using h) (by omega)
   ·cases i with
    | zero=>omega
    | succ i=>exact h4 i (by simpa using h) (by omega)
theorem frPos_at (p:A2) (l:List A2) (j:Nat) (h1:∀ i (h:i<l.length),i<j→l[i].f0≤p.f0) (h2:∀ i (h:i<l.length),j≤i→p.f0<l[i].f0):∀ k,j≤k→k≤l.length→frPos p l k=j
 | 0,hj,_=>by rw [frPos];omega
 | k + 1,hj,hk=>by
  rw [frPos,rdA2 (show k<l.length by omega)]
  by_cases e:j=k + 1
  ·rw [if_neg (by have:=h1 k (by omega) (by omega);omega)];exact e.symm
  ·rw [if_pos (h2 k (by omega) (by omega))]
   exact frPos_at p l j h1 h2 k (by omega) (by omega)
theorem frIns_eq (p:A2) {l:List A2} (hs:FrS l):frIns p l=insL p l:=by
 obtain ⟨j,h1,h2,h3,h4⟩:=insL_at p hs
 rw [frIns,frPos_at p l j h3 h4 l.length h1 (Nat.le_refl _),h2]
theorem insL_mem (p:A2):∀ (l:List A2) (q:A2),q ∈ insL p l ↔ q=p∨q ∈ l
 | [],q=>by simp [insL]
 | a::l,q=>by
  unfold insL
  split
  ·simp
  ·rw [List.mem_cons,insL_mem p l q,List.mem_cons]
   constructor
   ·rintro (h|h|h)
    ·exact .inr (.inl h)
    ·exact .inl h
    ·exact .inr (.inr h)
   ·rintro (h|h|h)
    ·exact .inr (.inl h)
    ·exact .inl h
    ·exact .inr (.inr h)
theorem insL_sorted (p:A2):∀ (l:List A2),FrS l→(∀ q ∈ l,q.f0≠p.f0)→FrS (insL p l)
 | [],_,_=>List.pairwise_singleton _ _
 | a::l,hs,hn=>by
  have hs':=List.pairwise_cons.1 hs
  unfold insL
  split
  ·rename_i c
   refine List.pairwise_cons.2 ⟨fun q hq=>?_,hs⟩
   rcases List.mem_cons.1 hq with rfl|hq
   ·exact c
   ·have:=hs'.1 q hq;omega
  ·rename_i c
   refine List.pairwise_cons.2 ⟨fun q hq=>?_,insL_sorted p l hs'.2 fun q hq=>hn q (List.mem_cons_of_mem _ hq)⟩
   rcases (insL_mem p l q).1 hq with rfl|hq
   ·have:=hn a List.mem_cons_self;omega
   ·exact hs'.1 q hq
theorem frLe_iff {q p:A2} : frLe q p=true ↔ q.f0≤p.f0∧q.f1≤p.f1:=by unfold frLe;simp
theorem frPut_no {p:A2} {l:List A2} (hs:FrS l) (h:¬ l.any (fun q=>frLe q p)=true):frPut p l=insL p (l.filter fun q=> !frLe p q):=by
 rw [frPut,if_neg h,frIns_eq p (List.Pairwise.filter _ hs)]
theorem frPut_sorted {p:A2} {l:List A2} (hs:FrS l):FrS (frPut p l):=by
 by_cases h:l.any (fun q=>frLe q p)=true
 ·rw [frPut,if_pos h];exact hs
 ·rw [frPut_no hs h]
  refine insL_sorted p _ (List.Pairwise.filter _ hs) fun q hq e=>?_
  have h1:=List.mem_filter.1 hq
  have h2:¬ frLe q p=true:=fun h2=>h (List.any_eq_true.2 ⟨q,h1.1,h2⟩)
  have h3:¬ frLe p q=true:=by have:=h1.2;simpa using this
  rw [frLe_iff] at h2 h3
  by_cases c:q.f1≤p.f1
  ·exact h2 ⟨by omega,c⟩
  ·exact h3 ⟨by omega,by omega⟩
theorem frPut_mem {p q:A2} {l:List A2} (hs:FrS l) (h:q ∈ frPut p l):q=p∨q ∈ l:=by
 by_cases c:l.any (fun q=>frLe q p)=true
 ·rw [frPut,if_pos c] at h;exact .inr h
 ·rw [frPut_no hs c,insL_mem] at h
  rcases h with h|h
  ·exact .inl h
  ·exact .inr (List.mem_filter.1 h).1
def factN:Nat→Nat
 | 0=>1
 | n + 1=>(n + 1) * factN n
theorem perms_len:∀ (n:Nat) (L:List Int),L.length=n→(perms n L).length=factN n
 | 0,L,h=>by simp [perms,factN]
 | n + 1,L,h=>by
  have key:∀ M:List Int,(∀ x ∈ M,x ∈ L)→(M.flatMap fun x=>(perms n (L.erase x)).map fun l=>x::l).length=M.length * factN n:=by
   intro M
   induction M with
   | nil=>intro _;simp
   | cons x M ih=>
    intro hM
    rw [List.flatMap_cons,List.length_append,List.length_map,perms_len n (L.erase x) (by rw [List.length_erase_of_mem (hM x List.mem_cons_self)];omega),ih fun y hy=>hM y (List.mem_cons_of_mem _ hy),List.length_cons,Nat.succ_mul]
    omega
  have:=key L (fun x hx=>hx)
  rw [h] at this
  rw [factN,←this]
  rfl
theorem factN_le:∀ n,n≤8→factN n≤40320:=by decide
/-- What a front holds: points of orders, by the first value. -/
def FrQ (pt:List Int→A2) (n:Nat) (s:List A2):Prop:=FrS s∧∀ q ∈ s,∃ l ∈ perms n (nums_to n),pt l=q
theorem FrQ.len {pt:List Int→A2} {n:Nat} {s:List A2} (h:FrQ pt n s) (hn:n≤8):s.length≤40320:=by
 have h1:(s.map fun q=>q.f0).Nodup:=by
  rw [List.nodup_iff_pairwise_ne,List.pairwise_map]
  exact h.1.imp fun hlt e=>by omega
 have h2:=nodup_sub h1 (s:=(perms n (nums_to n)).map fun l=>(pt l).f0) (fun x hx=>by
  obtain ⟨q,hq,rfl⟩:=List.mem_map.1 hx
  obtain ⟨l,hl,e⟩:=h.2 q hq
  exact List.mem_map.2 ⟨l,hl,by rw [e]⟩)
 rw [List.length_map,List.length_map,perms_len n _ (nums_to_length n)] at h2
 have:=factN_le n hn
 omega
theorem FrQ.put {pt:List Int→A2} {n:Nat} {s:List A2} (h:FrQ pt n s) {l:List Int} (hl:l ∈ perms n (nums_to n)):FrQ pt n (frPut (pt l) s):=by
 refine ⟨frPut_sorted h.1,fun q hq=>?_⟩
 rcases frPut_mem h.1 hq with rfl|hq
 ·exact ⟨l,hl,rfl⟩
 ·exact h.2 q hq

theorem perms_all:∀ (n:Nat) (L l:List Int),L.length=n→L.Nodup→l.Perm L→l ∈ perms n L
 | 0,L,l,hL,_,hp=>by
  obtain rfl:=List.eq_nil_of_length_eq_zero hL
  have:=hp.eq_nil
  subst this
  simp [perms]
 | n + 1,L,l,hL,hn,hp=>by
  have hlen:=hp.length_eq
  cases l with
  | nil=>simp at hlen;omega
  | cons x t=>
   have hx:x ∈ L:=hp.subset List.mem_cons_self
   have ht:t.Perm (L.erase x):=by
    have h2:=hp.erase x
    rwa [List.erase_cons_head] at h2
   have:=perms_all n (L.erase x) t (by rw [List.length_erase_of_mem hx];omega) (hn.erase x) ht
   show x::t ∈ L.flatMap fun x=>(perms n (L.erase x)).map fun l=>x::l
   exact List.mem_flatMap.2 ⟨x,hx,List.mem_map.2 ⟨t,this,rfl⟩⟩
theorem count_nodup:∀ {l:List Int},l.Nodup→∀ a,l.count a=if a ∈ l then 1 else 0
 | [],_,a=>by simp
 | b::l,h,a=>by
  have h':=List.nodup_cons.1 h
  rw [List.count_cons,count_nodup h'.2]
  by_cases e:b=a
  ·subst e
   simp [h'.1]
  ·have e':¬ a=b:=fun h2=>e h2.symm
   simp [e,e']
theorem isPerm_perms {n:Nat} {l:List Int} (h:IsPerm n l):l ∈ perms n (nums_to n):=by
 refine perms_all n _ l (nums_to_length n) (nums_to_nodup n) ?_
 have h1:l.Perm (nums_to n):=by
  rw [List.perm_iff_count]
  intro a
  have c1:=count_nodup h.2.1 a
  have c2:=count_nodup (nums_to_nodup n) a
  rw [c1,c2]
  have:a ∈ l ↔ a ∈ nums_to n:=⟨fun h2=>mem_nums_to.2 (h.2.2 a h2),fun h2=>h.all a (mem_nums_to.1 h2).1 (mem_nums_to.1 h2).2⟩
  simp [this]
 exact h1

theorem domS_ne {a b c d:Int} (h:¬ (a=c∧b=d)):spec_l11Dominates.f a b c d=some (decide (a≤c) && decide (b≤d)):=by
 unfold spec_l11Dominates.f
 by_cases h3:a≤c
 ·by_cases h4:b≤d
  ·by_cases h1:a=c
   ·have h2:b≠d:=fun e=>h ⟨h1,e⟩
    simp [h3,h4,h1,h2]
   ·simp [h3,h4,h1]
  ·simp [h3,h4]
 ·simp [h3]
theorem spec_l11Put.ev (l:List A2) (p:A2) (hl:l.length≤1000000) (hs:FrS l):Ev (fun k=>spec_l11Put.f k l p.f0 p.f1) (frPut p l):=by
 obtain ⟨p0,p1⟩:=p
 unfold spec_l11Put.f
  -- the second loop
 have second:∀ out:List A2,out.length≤1000000→(∀ q ∈ l,frLe q ⟨p0,p1⟩=false)→Ev (fun k=>spec_l11Put.l1 k l out false 0 p0 p1) (out++insL ⟨p0,p1⟩ (l.filter fun q=> !frLe ⟨p0,p1⟩ q)):=by
  intro out hout hno
  have key:=rev_ind (P:=fun i=>∀ out:List A2,out.length≤1000000 + 2 * i→Ev (fun k=>spec_l11Put.l1 k l out false (i:Int) p0 p1) (out++insL ⟨p0,p1⟩ ((l.drop i).filter fun q=> !frLe ⟨p0,p1⟩ q))∧Ev (fun k=>spec_l11Put.l1 k l out true (i:Int) p0 p1) (out++((l.drop i).filter fun q=> !frLe ⟨p0,p1⟩ q))) l.length ?_ ?_ 0 (Nat.zero_le _) out (by omega)
  ·have:=key.1;rwa [List.drop_zero] at this
  ·intro out ho
   rw [List.drop_of_length_le (Nat.le_refl _)]
   refine ⟨ev_stop fun k=>?_,ev_stop fun k=>?_⟩
   ·simp only [spec_l11Put.l1];rw [if_neg (by omega),if_neg (by simp),if_pos (by omega)];rfl
   ·simp only [spec_l11Put.l1];rw [if_neg (by omega)];simp
  ·intro i hi ih out ho
   have hq:=hno _ (List.getElem_mem hi)
   rw [drop_cons hi]
   obtain ⟨q,hqe⟩:∃ q,q=l[i]:=⟨_,rfl⟩
   rw [←hqe] at hq ⊢
   have hrd:rd_T77 l (i:Int)=q:=by rw [rdA2 hi,hqe]
   have hne:¬ (p0=q.f0∧p1=q.f1):=fun h=>by
    have:frLe q ⟨p0,p1⟩=true:=frLe_iff.2 ⟨by rw [←h.1];exact Int.le_refl _,by rw [←h.2];exact Int.le_refl _⟩
    rw [this] at hq;cases hq
   have hd:spec_l11Dominates.f p0 p1 q.f0 q.f1=some (frLe ⟨p0,p1⟩ q):=domS_ne hne
   by_cases hle:frLe ⟨p0,p1⟩ q=true
   ·rw [List.filter_cons_of_neg (by rw [hle];simp)]
    have ih2:=ih out (by omega)
    refine ⟨ev_go _ (fun k=>?_) ih2.1,ev_go _ (fun k=>?_) ih2.2⟩
    ·simp only [spec_l11Put.l1];rw [if_pos (by omega),if_pos (by omega),hrd,hd,Option.bind_some,if_pos hle,wr1 (by omega)]
    ·simp only [spec_l11Put.l1];rw [if_pos (by omega),if_pos (by omega),hrd,hd,Option.bind_some,if_pos hle,wr1 (by omega)]
   ·have hf:frLe ⟨p0,p1⟩ q=false:=by simpa using hle
    rw [List.filter_cons_of_pos (by rw [hf];rfl)]
    have eq_:(⟨q.f0,q.f1⟩:A2)=q:=rfl
    refine ⟨?_,?_⟩
    ·by_cases hg:q.f0>p0
     ·have ih2:=(ih (out++[⟨p0,p1⟩]++[q]) (by simp;omega)).2
      rw [insL,if_pos hg]
      rw [List.append_assoc,List.append_assoc] at ih2
      refine ev_go _ (fun k=>?_) ih2
      simp only [spec_l11Put.l1];rw [if_pos (by omega),if_pos (by omega),hrd,hd,Option.bind_some,if_neg hle,if_neg (by simp),if_pos hg,if_pos (by omega),Option.bind_some,if_pos (by simp;omega),wr1 (by omega),List.append_assoc]
     ·have ih2:=(ih (out++[q]) (by simp;omega)).1
      rw [insL,if_neg hg]
      rw [List.append_assoc] at ih2
      refine ev_go _ (fun k=>?_) ih2
      simp only [spec_l11Put.l1];rw [if_pos (by omega),if_pos (by omega),hrd,hd,Option.bind_some,if_neg hle,if_neg (by simp),if_neg hg,if_pos (by omega),wr1 (by omega)]
    ·have ih2:=(ih (out++[q]) (by simp;omega)).2
     rw [List.append_assoc] at ih2
     refine ev_go _ (fun k=>?_) ih2
     simp only [spec_l11Put.l1];rw [if_pos (by omega),if_pos (by omega),hrd,hd,Option.bind_some,if_neg hle];simp only [if_true];rw [if_pos (by omega),wr1 (by omega)]
 have first:=rev_ind (P:=fun i=>(∀ q ∈ l.take i,frLe q ⟨p0,p1⟩=false)→Ev (fun k=>spec_l11Put.l0 k l [] (i:Int) p0 p1) (frPut ⟨p0,p1⟩ l)) l.length ?_ ?_ 0 (Nat.zero_le _) (by simp)
 ·exact first
 ·intro hno
  rw [List.take_of_length_le (Nat.le_refl _)] at hno
  have h:=second [] (by simp) hno
  rw [frPut_no hs (fun h2=>by
   obtain ⟨q,hq,h3⟩:=List.any_eq_true.1 h2
   rw [hno q hq] at h3;cases h3)]
  rw [List.nil_append] at h
  refine ev_go _ (fun k=>?_) h
  simp only [spec_l11Put.l0];rw [if_neg (by omega)]
 ·intro i hi ih hno
  obtain ⟨q,hqe⟩:∃ q,q=l[i]:=⟨_,rfl⟩
  have hrd:rd_T77 l (i:Int)=q:=by rw [rdA2 hi,hqe]
  have hm:q ∈ l:=by rw [hqe];exact List.getElem_mem hi
  by_cases he:q.f0=p0∧q.f1=p1
  ·have ha:l.any (fun q=>frLe q ⟨p0,p1⟩)=true:=List.any_eq_true.2 ⟨q,hm,frLe_iff.2 ⟨by rw [he.1];exact Int.le_refl _,by rw [he.2];exact Int.le_refl _⟩⟩
   rw [frPut,if_pos ha]
   refine ev_stop fun k=>?_
   simp only [spec_l11Put.l0];rw [if_pos (by omega),if_pos (by omega),hrd,if_pos (by simp [he.1,he.2])]
  ·have hd:spec_l11Dominates.f q.f0 q.f1 p0 p1=some (frLe q ⟨p0,p1⟩):=domS_ne he
   have hb:¬ (q.f0 == p0 && (q.f1 == p1))=true:=by
    intro h;simp only [Bool.and_eq_true,beq_iff_eq] at h;exact he h
   by_cases hle:frLe q ⟨p0,p1⟩=true
   ·have ha:l.any (fun q=>frLe q ⟨p0,p1⟩)=true:=List.any_eq_true.2 ⟨q,hm,hle⟩
    rw [frPut,if_pos ha]
    refine ev_stop fun k=>?_
    simp only [spec_l11Put.l0];rw [if_pos (by omega),if_pos (by omega),hrd,if_neg hb,hd,Option.bind_some,if_pos hle]
   ·refine ev_go _ (fun k=>?_) (ih fun x hx=>?_)
    ·simp only [spec_l11Put.l0];rw [if_pos (by omega),if_pos (by omega),hrd,if_neg hb,hd,Option.bind_some,if_neg hle,wr1 (by omega)]
    ·rw [List.take_succ_eq_append_getElem hi,List.mem_append,List.mem_singleton] at hx
     rcases hx with hx|rfl
     ·exact hno x hx
     ·rw [←hqe];simpa using hle

def ptF (jobs:List J) (f g:Int) (l:List Int):A2:=⟨(pointF jobs f g l).1,(pointF jobs f g l).2⟩
def frontF (jobs:List J) (f g:Int):List A2:=(perms jobs.length (nums_to jobs.length)).foldl (fun s l=>frPut (ptF jobs f g l) s) []
theorem spec_l11Try.ev (jobs:List J) (f g:Int) (hj:JobsOk jobs) (hf:Obj8 f) (hg:Obj8 g):Ev (fun k=>spec_l11Try.f k jobs [] f g []) (frontF jobs f g)∧FrQ (ptF jobs f g) jobs.length (frontF jobs f g):=by
 have h8:=hj.1
 have key:=rec_all jobs.length (fun l s=>frPut (ptF jobs f g l) s) (fun s=>FrQ (ptF jobs f g) jobs.length s) (fun k b s=>spec_l11Try.f k jobs b f g s) (fun k b i s=>spec_l11Try.l0 k jobs b f g s i) ?_ ?_ ?_ ?_ ?_ jobs.length [] [] (by simp) (by simp) (by simp) ⟨List.Pairwise.nil,by simp⟩
 ·have e:=rec_start jobs.length (fun l s=>frPut (ptF jobs f g l) s) ([]:List A2)
  rw [e] at key
  exact key
 ·intro b s hb hs
  have hp:=spec_l11Point.ev jobs b f g ⟨hj,hb⟩ hf hg
  have hsl:=hs.len (by omega)
  refine ⟨?_,hs.put (isPerm_perms hb)⟩
  refine ev_go (fun k=>(spec_l11Point.f k jobs b f g).bind fun p=>(spec_l11Put.f k s p.1 p.2).bind fun t=>some t) (fun k=>?_) (ev_bind _ hp (ev_bind _ (spec_l11Put.ev s (ptF jobs f g b) (by omega) hs.1) (Ev.now _)))
  simp only [spec_l11Try.f]
  rw [if_pos (by have:=hb.1;omega)]
 ·intro b s r hb h
  refine ev_go _ (fun k=>?_) h
  simp only [spec_l11Try.f];rw [if_neg (by omega)]
 ·intro b s _
  refine ev_stop fun k=>?_
  simp only [spec_l11Try.l0];rw [if_neg (by omega)]
 ·intro b i s r hb hi hm hr
  refine ev_go (fun k=>(spec_l1Has.f k b (i:Int)).bind fun t=>if t=true then spec_l11Try.l0 k jobs b f g s ((i + 1:Nat):Int) else ((spec_l11Try.f k jobs (b++[(i:Int)]) f g s).bind fun q=>(spec_l11Try.l0 k jobs b f g q ((i + 1:Nat):Int)))) (fun k=>?_) (evB_bind (spec_l1Has.ev b (i:Int) (by omega)) (fun _=>by simp only [if_true];exact hr) (fun hn=>absurd hm hn))
  simp only [spec_l11Try.l0];rw [if_pos (by omega),wr1 (by omega),spec_l1Own.eq b (by omega)]
  simp only [Option.bind_some]
  rw [if_pos (by omega)]
 ·intro b i s s' r hb hi hm h1 h2
  refine ev_go (fun k=>(spec_l1Has.f k b (i:Int)).bind fun t=>if t=true then spec_l11Try.l0 k jobs b f g s ((i + 1:Nat):Int) else ((spec_l11Try.f k jobs (b++[(i:Int)]) f g s).bind fun q=>(spec_l11Try.l0 k jobs b f g q ((i + 1:Nat):Int)))) (fun k=>?_) (evB_bind (spec_l1Has.ev b (i:Int) (by omega)) (fun hn=>absurd hn hm) (fun _=>by simp only [Bool.false_eq_true,if_false];exact ev_bind _ h1 h2))
  simp only [spec_l11Try.l0];rw [if_pos (by omega),wr1 (by omega),spec_l1Own.eq b (by omega)]
  simp only [Option.bind_some]
  rw [if_pos (by omega)]
theorem spec_l11Front.ev (jobs:List J) (f g:Int) (hj:JobsOk jobs) (hf:Obj8 f) (hg:Obj8 g):Ev (fun k=>spec_l11Front.f k jobs f g) (frontF jobs f g):=by
 unfold spec_l11Front.f
 exact ev_bind _ (spec_l11Try.ev jobs f g hj hf hg).1 (Ev.now _)
theorem impl_frontOf.ev (jobs:List J) (f g:Int) (hj:JobsOk jobs):Ev (fun k=>impl_frontOf.f k jobs f g) (frontF jobs f g):=by
 have h8:=hj.1
 unfold impl_frontOf.f
 refine impl_eachOrder.ev (impl_frontOf.step jobs f g) (fun l s=>frPut (ptF jobs f g l) s) (fun s=>FrQ (ptF jobs f g) jobs.length s) jobs.length (by omega) [] (fun l hl s hs=>⟨?_,hs.put (isPerm_perms hl)⟩) ⟨List.Pairwise.nil,by simp⟩
 have hsl:=hs.len (by omega)
 unfold impl_frontOf.step
 simp only [if_pos (show s.length≤1048576 by omega)]
 exact ev_bind _ (impl_pointOf.ev jobs l f g ⟨hj,hl⟩) (Ev.now _)
theorem frontF_len (jobs:List J) (f g:Int) (hj:JobsOk jobs) (hf:Obj8 f) (hg:Obj8 g):(frontF jobs f g).length≤40320:=(spec_l11Try.ev jobs f g hj hf hg).2.len (by have:=hj.1;omega)

theorem ev_of_bind {α β:Type} {g:Nat→Option α} {F:α→β} {r:β} (hm:∀ k,LeO (g k) (g (k + 1))) (h:Ev (fun k=>(g k).bind fun q=>some (F q)) r):∃ q,Ev g q∧F q=r:=by
 obtain ⟨K,hK⟩:=h
 have h1:=hK K (Nat.le_refl _)
 obtain ⟨q,h2,h3⟩:=Option.bind_eq_some_iff.1 h1
 exact ⟨q,ev_mono K h2 hm,Option.some.inj h3⟩
theorem ev_now_inj {α:Type} {a r:α} (h:Ev (fun _=>some a) r):r=a:=by
 obtain ⟨K,hK⟩:=h
 exact (Option.some.inj (hK K (Nat.le_refl _))).symm
def foU (jobs:List J) (f g p0 p1:Int) (l:List Int) (s:List Int × Bool):List Int × Bool:=if s.2=false∧(pointF jobs f g l).1=p0∧(pointF jobs f g l).2=p1 then (l,true) else s
def foF (s q:List Int × Bool):List Int × Bool:=if q.2=true then (q.1,true) else s
theorem foU_find (jobs:List J) (f g p0 p1:Int):∀ (L:List (List Int)) (s:List Int × Bool),(s.2=true∨∃ l ∈ L,(pointF jobs f g l).1=p0∧(pointF jobs f g l).2=p1)→(L.foldl (fun s l=>foU jobs f g p0 p1 l s) s).2=true
 | [],s,h=>by rcases h with h | ⟨l,hl,_⟩;exact h;simp at hl
 | a::L,s,h=>by
  rw [List.foldl_cons]
  refine foU_find jobs f g p0 p1 L _ ?_
  by_cases c:s.2=true
  ·left;unfold foU;rw [if_neg (by rw [c];simp)];exact c
  ·have c':s.2=false:=by simpa using c
   rcases h with h | ⟨l,hl,hp⟩
   ·exact absurd h c
   ·rcases List.mem_cons.1 hl with rfl|hl
    ·left;unfold foU;rw [if_pos ⟨c',hp⟩]
    ·exact .inr ⟨l,hl,hp⟩
theorem spec_l11First.ev (jobs:List J) (f g p0 p1:Int) (hj:JobsOk jobs) (hf:Obj8 f) (hg:Obj8 g) (hfind:∃ l ∈ perms jobs.length (nums_to jobs.length),(pointF jobs f g l).1=p0∧(pointF jobs f g l).2=p1):Ev (fun k=>spec_l11First.f k jobs [] f g p0 p1) ((perms jobs.length (nums_to jobs.length)).foldl (fun s l=>foU jobs f g p0 p1 l s) ([],false)):=by
 have h8:=hj.1
 have key:=rec_all jobs.length (foU jobs f g p0 p1) (fun _=>True) (fun k b s=>if s.2=true then some s else (spec_l11First.f k jobs b f g p0 p1).bind fun q=>some (foF s q)) (fun k b i s=>if s.2=true then some s else (spec_l11First.l0 k jobs b f g i p0 p1).bind fun q=>some (foF s q)) ?_ ?_ ?_ ?_ ?_ jobs.length [] ([],false) (by simp) (by simp) (by simp) trivial
 ·rw [rec_start jobs.length (foU jobs f g p0 p1) ([],false)] at key
  have h2:=foU_find jobs f g p0 p1 _ ([],false) (.inr hfind)
  have k1:=key.1
  simp only [Bool.false_eq_true,if_false] at k1
  obtain ⟨q,h3,h4⟩:=ev_of_bind (fun k=>spec_l11First.mono _ _ _ _ _ _ k) k1
  rw [←h4] at h2 ⊢
  unfold foF at h2 ⊢
  by_cases c:q.2=true
  ·rw [if_pos c,←c];exact h3
  ·rw [if_neg c] at h2;cases h2
 ·intro b s hb _
  refine ⟨?_,trivial⟩
  by_cases c:s.2=true
  ·simp only [c,if_true]
   have:foU jobs f g p0 p1 b s=s:=by unfold foU;rw [if_neg (by rw [c];simp)]
   rw [this];exact Ev.now _
  ·have c':s.2=false:=by simpa using c
   have hp:=spec_l11Point.ev jobs b f g ⟨hj,hb⟩ hf hg
   have h1:Ev (fun k=>spec_l11First.f k jobs b f g p0 p1) (b,((pointF jobs f g b).1 == p0 && ((pointF jobs f g b).2 == p1))):=by
    refine ev_go (fun k=>(spec_l11Point.f k jobs b f g).bind fun bt=>some (b,(bt.1 == p0 && (bt.2 == p1)))) (fun k=>?_) (ev_bind _ hp (Ev.now _))
    simp only [spec_l11First.f]
    rw [if_pos (by have:=hb.1;omega)]
   simp only [c',Bool.false_eq_true,if_false]
   have e:foU jobs f g p0 p1 b s=foF s (b,((pointF jobs f g b).1 == p0 && ((pointF jobs f g b).2 == p1))):=by
    unfold foU foF
    simp [c']
   rw [e]
   exact ev_bind _ h1 (Ev.now _)
 ·intro b s r hb h
  by_cases c:s.2=true
  ·simp only [c,if_true] at h ⊢;exact h
  ·simp only [c,Bool.false_eq_true,if_false] at h ⊢
   refine ev_go _ (fun k=>?_) h
   simp only [spec_l11First.f];rw [if_neg (by omega)]
 ·intro b s _
  by_cases c:s.2=true
  ·simp only [c,if_true];exact Ev.now _
  ·simp only [c,Bool.false_eq_true,if_false]
   refine ev_stop fun k=>?_
   simp only [spec_l11First.l0];rw [if_neg (by omega)]
   simp [foF]
 ·intro b i s r hb hi hm hr
  have h1:=spec_l1Has.ev b (i:Int) (by omega)
  by_cases c:s.2=true
  ·simp only [c,if_true] at hr ⊢;exact hr
  ·simp only [c,Bool.false_eq_true,if_false] at hr ⊢
   obtain ⟨q,h3,h4⟩:=ev_of_bind (fun k=>(spec_l11First.mono_l k).2 _ _ _ _ _ _ _) hr
   rw [←h4]
   refine ev_bind q ?_ (Ev.now _)
   refine ev_go (fun k=>(spec_l1Has.f k b (i:Int)).bind fun t=>if t=true then spec_l11First.l0 k jobs b f g ((i + 1:Nat):Int) p0 p1 else ((spec_l11First.f k jobs (b++[(i:Int)]) f g p0 p1).bind fun bt=>if bt.2=true then some (bt.1,true) else (spec_l11First.l0 k jobs b f g ((i + 1:Nat):Int) p0 p1))) (fun k=>?_) (evB_bind h1 (fun _=>by simp only [if_true];exact h3) (fun hn=>absurd hm hn))
   simp only [spec_l11First.l0];rw [if_pos (by omega),wr1 (by omega),spec_l1Own.eq b (by omega)]
   simp only [Option.bind_some]
   rw [if_pos (by simp;omega)]
 ·intro b i s s' r hb hi hm ha hr
  have h1:=spec_l1Has.ev b (i:Int) (by omega)
  by_cases c:s.2=true
  ·simp only [c,if_true] at ha
   obtain rfl:=ev_now_inj ha
   simp only [c,if_true] at hr ⊢;exact hr
  ·simp only [c,Bool.false_eq_true,if_false] at ha ⊢
   obtain ⟨q,h3,h4⟩:=ev_of_bind (fun k=>spec_l11First.mono _ _ _ _ _ _ k) ha
   have gen:∀ z,Ev (fun k=>if q.2=true then some (q.1,true) else spec_l11First.l0 k jobs b f g ((i + 1:Nat):Int) p0 p1) z→Ev (fun k=>spec_l11First.l0 k jobs b f g (i:Int) p0 p1) z:=by
    intro z hz
    refine ev_go (fun k=>(spec_l1Has.f k b (i:Int)).bind fun t=>if t=true then spec_l11First.l0 k jobs b f g ((i + 1:Nat):Int) p0 p1 else ((spec_l11First.f k jobs (b++[(i:Int)]) f g p0 p1).bind fun bt=>if bt.2=true then some (bt.1,true) else (spec_l11First.l0 k jobs b f g ((i + 1:Nat):Int) p0 p1))) (fun k=>?_) (evB_bind h1 (fun hn=>absurd hn hm) (fun _=>by simp only [Bool.false_eq_true,if_false];exact ev_bind q h3 hz))
    simp only [spec_l11First.l0];rw [if_pos (by omega),wr1 (by omega),spec_l1Own.eq b (by omega)]
    simp only [Option.bind_some]
    rw [if_pos (by simp;omega)]
   unfold foF at h4
   by_cases c2:q.2=true
   ·rw [if_pos c2] at h4
    subst h4
    simp only [if_true] at hr
    obtain rfl:=ev_now_inj hr
    have:=gen (q.1,true) (by simp only [c2,if_true];exact Ev.now _)
    refine ev_eq (ev_bind _ this (Ev.now _)) (by simp [foF])
   ·rw [if_neg c2] at h4
    subst h4
    simp only [c,Bool.false_eq_true,if_false] at hr
    obtain ⟨z,h5,h6⟩:=ev_of_bind (fun k=>(spec_l11First.mono_l k).2 _ _ _ _ _ _ _) hr
    rw [←h6]
    exact ev_bind z (gen z (by simp only [c2];exact h5)) (Ev.now _)
theorem core_FrontOrder (jobs:List J) (f g n:Int) (hj:jobs.length≤1048576) (hf:(Lit.int .i64 f).wf=true) (hg:(Lit.int .i64 g).wf=true) (hn:(Lit.int .i64 n).wf=true):∃ r b,Ev (fun k=>spec_FrontOrder.f k jobs f g n) (r,b)∧Ev (fun k=>impl_FrontOrder.f k jobs f g n) (r,b)∧r.length≤1048576:=by
 have e1:=spec_l2Good.ev jobs (by omega)
 have e2:=spec_l11Two.ev f g
 have e3:=impl_areTwo.ev jobs f g
 unfold spec_FrontOrder.f impl_FrontOrder.f
 by_cases h:JobsOk jobs∧Obj8 f∧Obj8 g
 ·have hb:=spec_l11Front.ev jobs f g h.1 h.2.1 h.2.2
  have hi:=impl_frontOf.ev jobs f g h.1
  have hq:=(spec_l11Try.ev jobs f g h.1 h.2.1 h.2.2).2
  have hlen:=frontF_len jobs f g h.1 h.2.1 h.2.2
  have h8:=h.1.1
  have wl:wrap64 (((frontF jobs f g).length:Int) - 1)=((frontF jobs f g).length:Int) - 1:=wr (by omega) (by omega)
  have s1:∀ r,Ev (fun k=>spec_FrontOrder.j0 k jobs f g n false) r→Ev (fun k=>(spec_l2Good.f k jobs).bind fun t249=>(if t249=true then ((spec_l11Two.f f g).bind fun t250=>(spec_FrontOrder.j0 k jobs f g n (!t250))) else (spec_FrontOrder.j0 k jobs f g n true))) r:=by
   intro r hr
   refine ev_guard' e1 (fun _=>?_) (fun hn=>absurd h.1 hn)
   exact evB_bind e2 (fun _=>hr) (fun hn=>absurd h.2 hn)
  by_cases hc:0≤n∧n<((frontF jobs f g).length:Int)
  ·obtain ⟨n,rfl⟩:=Int.eq_ofNat_of_zero_le hc.1
   have hnl:n<(frontF jobs f g).length:=by omega
   obtain ⟨l,hl,hp⟩:=hq.2 _ (List.getElem_mem hnl)
   have hrd:=rdA2 hnl
   have hfind:∃ l ∈ perms jobs.length (nums_to jobs.length),(pointF jobs f g l).1=(rd_T77 (frontF jobs f g) (n:Int)).f0∧(pointF jobs f g l).2=(rd_T77 (frontF jobs f g) (n:Int)).f1:=by
    rw [hrd,←hp];exact ⟨l,hl,rfl,rfl⟩
   have hF:=spec_l11First.ev jobs f g (rd_T77 (frontF jobs f g) (n:Int)).f0 (rd_T77 (frontF jobs f g) (n:Int)).f1 h.1 h.2.1 h.2.2 hfind
   have hB:=foU_find jobs f g _ _ _ ([],false) (.inr hfind)
   have hI:=impl_eachOrder.ev (impl_FrontOrder.step jobs f g (rd_T77 (frontF jobs f g) (n:Int))) (foU jobs f g (rd_T77 (frontF jobs f g) (n:Int)).f0 (rd_T77 (frontF jobs f g) (n:Int)).f1) (fun s=>s.1.length≤8) jobs.length (by omega) ([],false) (fun l hl s hs=>⟨by
    unfold impl_FrontOrder.step
    simp only [impl_copyInts.eq l (by have:=hl.1;omega),if_true]
    refine ev_eq (ev_bind _ (impl_pointOf.ev jobs l f g ⟨h.1,hl⟩) (Ev.now _)) ?_
    rfl,by
    unfold foU
    split
    ·have:=hl.1;show l.length≤8;omega
    ·exact hs⟩) (by simp)
   obtain ⟨S,hS⟩:∃ S,S=(perms jobs.length (nums_to jobs.length)).foldl (fun s l=>foU jobs f g (rd_T77 (frontF jobs f g) (n:Int)).f0 (rd_T77 (frontF jobs f g) (n:Int)).f1 l s) ([],false):=⟨_,rfl⟩
   have hS8:S.1.length≤8:=by
    rw [hS]
    have gen:∀ (L:List (List Int)) (s:List Int × Bool),(∀ l ∈ L,l.length≤8)→s.1.length≤8→(L.foldl (fun s l=>foU jobs f g (rd_T77 (frontF jobs f g) (n:Int)).f0 (rd_T77 (frontF jobs f g) (n:Int)).f1 l s) s).1.length≤8:=by
     intro L
     induction L with
     | nil=>intro s _ h;exact h
     | cons a L ih=>
      intro s hL h
      rw [List.foldl_cons]
      refine ih _ (fun l hl=>hL l (List.mem_cons_of_mem _ hl)) ?_
      unfold foU
      split
      ·exact hL a List.mem_cons_self
      ·exact h
    exact gen _ _ (fun l hl=>by have:=(perms_isPerm hl).1;omega) (by simp)
   rw [←hS] at hF hI hB
   refine ⟨S.1,true,s1 _ ?_,ev_guard' e3 (fun _=>ev_bind _ hi ?_) (fun hn=>absurd h hn),by omega⟩
   ·refine ev_go (fun k=>(spec_l11Front.f k jobs f g).bind fun t254=>((spec_l1In.f (n:Int) 0 (wrap64 ((t254.length:Int) - 1))).bind fun t257=>(if t257=true then (if 0≤(n:Int) then (if (n:Int)<(t254.length:Int) then ((spec_l11First.f k jobs (([]:List Int)) f g ((rd_T77 t254 (n:Int)).f0) ((rd_T77 t254 (n:Int)).f1)).bind fun bt262=>(some (bt262.1,bt262.2))) else (none)) else (none)) else (some ((([]:List Int)),false))))) (fun k=>?_) (ev_bind _ hb ?_)
    ·simp only [spec_FrontOrder.j0];rfl
    ·simp only [wl,spec_l1In.eq,Option.bind_some]
     simp only [show (decide (0≤(n:Int)∧(n:Int)≤((frontF jobs f g).length:Int) - 1))=true by simp;omega,if_true,if_pos hc.1,if_pos hc.2]
     refine ev_eq (ev_bind _ hF (Ev.now _)) ?_
     rw [hB]
   ·simp only [impl_isNumber.eq (n:Int) ((frontF jobs f g).length:Int) (by omega) (by omega),Option.bind_some]
    simp only [show (decide (0≤(n:Int)∧(n:Int)<((frontF jobs f g).length:Int)))=true by simp;omega,if_true,if_pos hc]
    exact ev_bind _ hI (Ev.now _)
  ·refine ⟨[],false,s1 _ ?_,ev_guard' e3 (fun _=>ev_bind _ hi ?_) (fun hn=>absurd h hn),by simp⟩
   ·refine ev_go (fun k=>(spec_l11Front.f k jobs f g).bind fun t254=>((spec_l1In.f n 0 (wrap64 ((t254.length:Int) - 1))).bind fun t257=>(if t257=true then (if 0≤n then (if n<(t254.length:Int) then ((spec_l11First.f k jobs (([]:List Int)) f g ((rd_T77 t254 n).f0) ((rd_T77 t254 n).f1)).bind fun bt262=>(some (bt262.1,bt262.2))) else (none)) else (none)) else (some ((([]:List Int)),false))))) (fun k=>?_) (ev_bind _ hb ?_)
    ·simp only [spec_FrontOrder.j0];rfl
    ·simp only [wl,spec_l1In.eq,Option.bind_some]
     rw [show (decide (0≤n∧n≤((frontF jobs f g).length:Int) - 1))=false by simp;omega]
     exact Ev.now _
   ·simp only [impl_isNumber.eq n ((frontF jobs f g).length:Int) (by omega) (by omega),Option.bind_some]
    rw [show (decide (0≤n∧n<((frontF jobs f g).length:Int)))=false by simp;omega]
    exact Ev.now _
 ·refine ⟨[],false,?_,ev_guard' e3 (fun h1=>absurd h1 h) (fun _=>Ev.now _),by simp⟩
  have hf2:Ev (fun k=>spec_FrontOrder.j0 k jobs f g n true) ([],false):=ev_stop fun k=>by simp only [spec_FrontOrder.j0];rfl
  refine ev_guard' e1 (fun h1=>evB_bind e2 (fun h2=>absurd ⟨h1,h2⟩ h) (fun _=>hf2)) (fun _=>hf2)

end Go.Proofs.Ytbblhmpcpmamfaa.Pure
-- minified
