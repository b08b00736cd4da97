/- Proved here: what functions that the law FnExactBestListPlan reaches answer (a2T, laws_markIntA2S, laws_szIntA2S, laws_toIntA2S, laws_eqIntA2S, tblP, impl_closure, spec_l4Table, cloL, precOk, spec_l4Good, impl_IsPrecedence, cloT, tailF, parOk, spec_l7Good, impl_isParallel). Conditions: those that each theorem names. -/
import Derived.Test.YtbcfmegepkhlpaaQFnExactBestListPlana
set_option linter.unusedVariables false
set_option linter.unusedSimpArgs false
namespace Go.Proofs.Ytbcfmegepkhlpaa.Pure
open Go.RowKit Go.Proofs.Ytbcfmegepkhlpaa.XFnExactBestListPlan Go.Proofs.YtbcfmegepkhlpaaW.PrintWords Go.Proofs.YtbcfmegepkhlpaaW.PrintLast

abbrev A2:=S72
theorem rdA2 {l:List A2} {i:Nat} (h:i<l.length):rd_T72 l (i:Int)=l[i]:=by simp [rd_T72,h]
theorem a2_ext {a b:A2} (h0:a.f0=b.f0) (h1:a.f1=b.f1):a=b:=by cases a;cases b;simp at h0 h1;rw [h0,h1]

def mkA2 (x:List A2) (i b:Int):List A2:=x.set i.toNat ⟨b,b + 1⟩
theorem laws_markIntA2S.any (l:List A2) (a:Int) (h0:0≤a) (h1:a≤1000000000) (hl:l.length≤1048576):∃ n l',Ev (fun k=>laws_markIntA2S.f k l a) (n,l')∧0≤n∧n≤a + 100000000∧((n<0)=False):=by
 have key:=rev_ind (P:=fun i=>∀ (x:List A2) (b:Int),x.length=l.length→b=a + 2 * i→∃ l',Ev (fun k=>laws_markIntA2S.l0 k x b (i:Int)) (a + 2 * l.length,l')) l.length ?_ ?_ 0 (Nat.zero_le _) l a rfl (by omega)
 ·obtain ⟨l',h⟩:=key
  refine ⟨a + 2 * l.length,l',?_,by omega,by omega,by simp;omega⟩
  unfold laws_markIntA2S.f
  simp only [if_pos hl]
  exact h
 ·intro x b hx hb
  refine ⟨x,ev_stop fun k=>?_⟩
  simp only [laws_markIntA2S.l0];rw [if_neg (by omega),if_neg (by omega),hb]
 ·intro i hi ih x b hx hb
  have w1:wrap64 (b + 1)=b + 1:=wr (by omega) (by omega)
  have w2:wrap64 (b + 1 + 1)=b + 2:=by rw [wr (by omega) (by omega)];omega
  obtain ⟨l',h⟩:=ih (mkA2 x i b) (b + 2) (by simp [mkA2,hx]) (by omega)
  refine ⟨l',ev_go _ (fun k=>?_) h⟩
  simp only [laws_markIntA2S.l0]
  rw [if_pos (by omega),w1,w2,wr1 (by omega)]
  rfl

theorem laws_szIntA2S.eq (l:List A2) (a:Int) (h0:0≤a) (h1:a≤1048576) (hl:l.length≤9223372036854775807):∃ n,laws_szIntA2S.f l a=some n∧n≤1048576∧(0≤n→l.length≤1048576):=by
 unfold laws_szIntA2S.f
 rw [wr (by omega) (by omega)]
 by_cases h:a - (l.length:Int)<0
 ·exact ⟨-1,by rw [if_pos h],by omega,fun h=>absurd h (by omega)⟩
 ·exact ⟨_,by rw [if_neg h],by omega,fun _=>by omega⟩

theorem laws_toIntA2S.ev (l:List A2) (hl:l.length≤1000000000000):Ev (fun k=>laws_toIntA2S.f k l) l:=by
 unfold laws_toIntA2S.f
 rw [show (fun k=>if 0≤(l.length:Int) then (if ((l.length:Int):Int).toNat≤17592186044416 then (laws_toIntA2S.l0 k l (List.replicate ((l.length:Int):Int).toNat z72) 0) else none) else none)=fun k=>laws_toIntA2S.l0 k l (List.replicate l.length z72) 0 from funext fun k=>by rw [if_pos (by omega),if_pos (by omega)];rfl]
 have key:=rev_ind (P:=fun i=>Ev (fun k=>laws_toIntA2S.l0 k l (l.take i++(List.replicate l.length z72).drop i) (i:Int)) l) l.length ?_ ?_ 0 (Nat.zero_le _)
 ·simpa using key
 ·refine ev_stop fun k=>?_
  simp only [laws_toIntA2S.l0];rw [if_neg (by omega),List.take_of_length_le (by simp)];simp
 ·intro i hi ih
  have hlen:(l.take i++(List.replicate l.length z72).drop i).length=l.length:=by simp;omega
  refine ev_go _ (fun k=>?_) ih
  simp only [laws_toIntA2S.l0,laws_toIntA2.f,Option.bind_some];rw [if_pos (by omega),if_pos (by omega),if_pos (by rw [hlen];omega),rdA2 hi,wr1 (by omega)]
  have:=set_copy (l:=l) (z:=List.replicate l.length z72) (i:=i) hi (by simpa using hi)
  rw [show ((i:Int)).toNat=i by omega,←this]

theorem laws_eqIntA2S.ev (l m:List A2) (hl:l.length≤1000000000000000):EvB (fun k=>laws_eqIntA2S.f k l m) (l=m):=by
 unfold laws_eqIntA2S.f
 by_cases e:(l.length:Int)=(m.length:Int)
 ·simp only [if_pos e]
  have key:=rev_ind (P:=fun i=>EvB (fun k=>laws_eqIntA2S.l0 k l m (i:Int)) (l.drop i=m.drop i)) l.length ?_ ?_ 0 (Nat.zero_le _)
  ·simpa using key
  ·refine evB_of (fun _=>ev_stop fun k=>?_) (fun h=>absurd ?_ h)
   ·simp only [laws_eqIntA2S.l0];rw [if_neg (by omega)]
   ·rw [List.drop_eq_nil_of_le (by omega),List.drop_eq_nil_of_le (by omega)]
  ·intro i hi ih
   have hm:i<m.length:=by omega
   rw [drop_cons hi,drop_cons hm]
   have hc:∀ k,laws_eqIntA2.f k l[i].f0 l[i].f1 m[i].f0 m[i].f1=some (decide (l[i].f0=m[i].f0∧l[i].f1=m[i].f1)):=fun k=>rfl
   have hce:decide (l[i].f0=m[i].f0∧l[i].f1=m[i].f1)=true ↔ l[i]=m[i]:=by
    rw [decide_eq_true_eq]
    exact ⟨fun h=>a2_ext h.1 h.2,fun h=>by rw [h];exact ⟨rfl,rfl⟩⟩
   by_cases q:l[i]=m[i]
   ·obtain ⟨b,hb,hP⟩:=ih
    refine ⟨b,ev_go _ (fun k=>?_) hb,by rw [hP,q];exact ⟨fun h=>by rw [h],fun h=>(List.cons.inj h).2⟩⟩
    simp only [laws_eqIntA2S.l0];rw [if_pos (by omega),if_pos (by omega),if_pos (by omega),rdA2 hi,rdA2 hm,hc,Option.bind_some,if_pos (hce.2 q),wr1 (by omega)]
   ·refine evB_of (fun h=>absurd (List.cons.inj h).1 q) (fun _=>ev_stop fun k=>?_)
    simp only [laws_eqIntA2S.l0];rw [if_pos (by omega),if_pos (by omega),if_pos (by omega),rdA2 hi,rdA2 hm,hc,Option.bind_some,if_neg (fun h=>q (hce.1 h))]
 ·simp only [if_neg e]
  exact evB_of (fun h=>absurd (by rw [h]) e) (fun _=>Ev.now _)
theorem laws_eqIntA2S.same (l:List A2) (hl:l.length≤1000000000000000):Ev (fun k=>laws_eqIntA2S.f k l l) true:=evB_true (laws_eqIntA2S.ev l l hl) rfl

/-- A square table of bools. -/
abbrev BF:=Nat→Nat→Bool
def tbl (n:Nat) (f:BF):List (List Bool):=(List.range n).map fun i=>(List.range n).map fun j=>f i j
def upd2 (f:BF) (i j:Nat) (v:Bool):BF:=fun a b=>if a=i∧b=j then v else f a b
theorem tbl_length (n:Nat) (f:BF):(tbl n f).length=n:=by simp [tbl]
theorem tbl_row {n:Nat} {f:BF} {i:Nat} (h:i<n):rd_L6 (tbl n f) (i:Int)=(List.range n).map fun j=>f i j:=by simp [rd_L6,tbl,h]
theorem tbl_rowlen {n:Nat} {f:BF} {i:Nat} (h:i<n):(rd_L6 (tbl n f) (i:Int)).length=n:=by rw [tbl_row h];simp
theorem tbl_at {n:Nat} {f:BF} {i j:Nat} (h:i<n) (h2:j<n):rdOf false (rd_L6 (tbl n f) (i:Int)) (j:Int)=f i j:=by rw [tbl_row h];simp [rdOf,h2]
theorem tbl_set {n:Nat} {f:BF} {i j:Nat} (h:i<n) (h2:j<n) (v:Bool):(tbl n f).set i ((rd_L6 (tbl n f) (i:Int)).set j v)=tbl n (upd2 f i j v):=by
 rw [tbl_row h]
 apply List.ext_getElem
 ·simp [tbl]
 ·intro a h3 h4
  simp only [tbl,List.length_map,List.length_range] at h4
  rw [List.getElem_set]
  by_cases e:i=a
  ·subst e
   rw [if_pos rfl]
   apply List.ext_getElem
   ·simp [tbl]
   ·intro b h5 h6
    simp only [List.length_set,List.length_map,List.length_range] at h5
    rw [List.getElem_set]
    simp only [tbl,List.getElem_map,List.getElem_range,upd2]
    by_cases e2:j=b
    ·subst e2;simp
    ·rw [if_neg e2,if_neg (by rintro ⟨_,h⟩;exact e2 h.symm)]
  ·rw [if_neg e]
   simp only [tbl,List.getElem_map,List.getElem_range,upd2]
   congr 1
   funext b
   rw [if_neg (by rintro ⟨h,_⟩;exact e h.symm)]
/-- The pairs, laid into a table. -/
def edgF:List A2→BF→BF
 | [],f=>f
 | e::E,f=>edgF E (upd2 f e.f0.toNat e.f1.toNat true)
/-- Warshall's rounds. -/
def fwS (k i j:Nat) (f:BF):BF:=upd2 f i j (f i j || (f i k && f k j))
def fwJ (k i:Nat):List Nat→BF→BF:=fun L f=>L.foldl (fun f j=>fwS k i j f) f
def fwI (n k:Nat):List Nat→BF→BF:=fun L f=>L.foldl (fun f i=>fwJ k i (List.range n) f) f
def fwK (n:Nat):List Nat→BF→BF:=fun L f=>L.foldl (fun f k=>fwI n k (List.range n) f) f
def cloF (n:Nat) (E:List A2):BF:=fwK n (List.range n) (edgF E fun _ _=>false)
def EdgIn (n:Nat) (E:List A2):Prop:=∀ e ∈ E,(0≤e.f0∧e.f0<(n:Int))∧(0≤e.f1∧e.f1<(n:Int))
theorem range_drop {n i:Nat} (h:i<n):(List.range n).drop i=i::(List.range n).drop (i + 1):=by rw [drop_cons (by simpa using h)];simp
theorem fwS_same (k i j:Nat) (f:BF) (h:(f i k && f k j)=false):fwS k i j f=f:=by
 funext a b
 unfold fwS upd2
 by_cases e:a=i∧b=j
 ·rw [if_pos e,e.1,e.2,h,Bool.or_false]
 ·rw [if_neg e]

theorem impl_closure.ev (n:Nat) (E:List A2) (hn:n≤8) (hE:E.length≤1000000) (hin:EdgIn n E):Ev (fun k=>impl_closure.f k (n:Int) E) (tbl n (cloF n E)):=by
 unfold impl_closure.f
 rw [show (fun k=>if 0≤(n:Int) then (if ((n:Int):Int).toNat≤11728124029610 then ((some (List.replicate ((n:Int):Int).toNat []:List (List Bool))).bind fun y167=>(impl_closure.l0 k (n:Int) E y167 (y167.length:Int) 0)) else none) else none)=fun k=>impl_closure.l0 k (n:Int) E (List.replicate n ([]:List Bool)) (n:Int) 0 from funext fun k=>by rw [if_pos (by omega),if_pos (by omega),Option.bind_some,Int.toNat_natCast,List.length_replicate]]
 have l4:∀ (a i:Nat) (R:List (List Bool)),a<n→i<n→∀ j,j≤n→∀ f:BF,Ev (fun k=>impl_closure.l3 k (n:Int) (tbl n (fwJ a i ((List.range n).drop j) f)) (a:Int) ((i + 1:Nat):Int)) R→Ev (fun k=>impl_closure.l4 k (n:Int) (tbl n f) (a:Int) (i:Int) (j:Int)) R:=by
  intro a i R ha hi
  refine rev_ind (P:=fun j=>∀ f:BF,Ev (fun k=>impl_closure.l3 k (n:Int) (tbl n (fwJ a i ((List.range n).drop j) f)) (a:Int) ((i + 1:Nat):Int)) R→Ev (fun k=>impl_closure.l4 k (n:Int) (tbl n f) (a:Int) (i:Int) (j:Int)) R) n ?_ ?_
  ·intro f h
   rw [List.drop_of_length_le (by simp)] at h
   refine ev_go _ (fun k=>?_) h
   simp only [impl_closure.l4];rw [if_neg (by omega),wr1 (by omega)];rfl
  ·intro j hj ih f h
   rw [range_drop hj] at h
   have hs:=ih (fwS a i j f) h
   refine ev_go _ (fun k=>?_) hs
   simp only [impl_closure.l4]
   rw [if_pos (by omega),if_pos (by omega),if_pos (by rw [tbl_length];omega),if_pos (by omega),if_pos (by rw [tbl_rowlen hi];omega),tbl_at hi hj,wr1 (by omega)]
   simp only [Int.toNat_natCast]
   by_cases c1:f i j=true
   ·rw [if_pos c1,tbl_set hi hj,fwS,c1];rfl
   ·have c1:f i j=false:=by simpa using c1
    rw [if_neg (by rw [c1];simp),if_pos (by omega),if_pos (by rw [tbl_rowlen hi];omega),tbl_at hi ha]
    by_cases c2:f i a=true
    ·rw [if_pos c2,if_pos (by rw [tbl_length];omega),if_pos (by rw [tbl_rowlen ha];omega),tbl_at ha hj,tbl_set hi hj,fwS,c1,c2];simp
    ·have c2:f i a=false:=by simpa using c2
     rw [if_neg (by rw [c2];simp),tbl_set hi hj,fwS,c1,c2];simp
 have l3:∀ (a:Nat) (R:List (List Bool)),a<n→∀ i,i≤n→∀ f:BF,Ev (fun k=>impl_closure.l2 k (n:Int) (tbl n (fwI n a ((List.range n).drop i) f)) ((a + 1:Nat):Int)) R→Ev (fun k=>impl_closure.l3 k (n:Int) (tbl n f) (a:Int) (i:Int)) R:=by
  intro a R ha
  refine rev_ind (P:=fun i=>∀ f:BF,Ev (fun k=>impl_closure.l2 k (n:Int) (tbl n (fwI n a ((List.range n).drop i) f)) ((a + 1:Nat):Int)) R→Ev (fun k=>impl_closure.l3 k (n:Int) (tbl n f) (a:Int) (i:Int)) R) n ?_ ?_
  ·intro f h
   rw [List.drop_of_length_le (by simp)] at h
   refine ev_go _ (fun k=>?_) h
   simp only [impl_closure.l3];rw [if_neg (by omega),wr1 (by omega)];rfl
  ·intro i hi ih f h
   rw [range_drop hi] at h
   refine ev_go (fun k=>impl_closure.l4 k (n:Int) (tbl n f) (a:Int) (i:Int) 0) (fun k=>?_) (l4 a i R ha hi 0 (Nat.zero_le _) f (ih _ h))
   simp only [impl_closure.l3];rw [if_pos (by omega)]
 have l2:∀ a,a≤n→∀ f:BF,Ev (fun k=>impl_closure.l2 k (n:Int) (tbl n f) (a:Int)) (tbl n (fwK n ((List.range n).drop a) f)):=by
  refine rev_ind (P:=fun a=>∀ f:BF,Ev (fun k=>impl_closure.l2 k (n:Int) (tbl n f) (a:Int)) (tbl n (fwK n ((List.range n).drop a) f))) n ?_ ?_
  ·intro f
   rw [List.drop_of_length_le (by simp)]
   refine ev_stop fun k=>?_
   simp only [impl_closure.l2];rw [if_neg (by omega)];rfl
  ·intro a ha ih f
   rw [range_drop ha]
   refine ev_go (fun k=>impl_closure.l3 k (n:Int) (tbl n f) (a:Int) 0) (fun k=>?_) (l3 a _ ha 0 (Nat.zero_le _) f (ih _))
   simp only [impl_closure.l2];rw [if_pos (by omega)]
 have l1:∀ i,i≤E.length→∀ f:BF,Ev (fun k=>impl_closure.l1 k (n:Int) (tbl n f) E (E.length:Int) (i:Int)) (tbl n (fwK n (List.range n) (edgF (E.drop i) f))):=by
  refine rev_ind (P:=fun i=>∀ f:BF,Ev (fun k=>impl_closure.l1 k (n:Int) (tbl n f) E (E.length:Int) (i:Int)) (tbl n (fwK n (List.range n) (edgF (E.drop i) f)))) E.length ?_ ?_
  ·intro f
   rw [List.drop_length]
   refine ev_go _ (fun k=>?_) (l2 0 (Nat.zero_le _) f)
   simp only [impl_closure.l1];rw [if_neg (by omega)];rfl
  ·intro i hi ih f
   obtain ⟨⟨h1,h2⟩,h3,h4⟩:=hin _ (List.getElem_mem hi)
   rw [drop_cons hi,edgF]
   refine ev_go _ (fun k=>?_) (ih _)
   obtain ⟨x,hx⟩:=Int.eq_ofNat_of_zero_le h1
   obtain ⟨y,hy⟩:=Int.eq_ofNat_of_zero_le h3
   simp only [impl_closure.l1]
   rw [if_pos (by omega),if_pos (by omega),if_pos (by omega),rdA2 hi,hx,hy,if_pos (by omega),if_pos (by rw [tbl_length];omega),if_pos (by omega),if_pos (by rw [tbl_rowlen (by omega)];omega),wr1 (by omega)]
   simp only [Int.toNat_natCast]
   rw [tbl_set (by omega) (by omega)]
 have l0:=rev_ind (P:=fun i=>Ev (fun k=>impl_closure.l0 k (n:Int) E ((tbl n fun _ _=>false).take i++(List.replicate n ([]:List Bool)).drop i) (n:Int) (i:Int)) (tbl n (cloF n E))) n ?_ ?_ 0 (Nat.zero_le _)
 ·simpa using l0
 ·refine ev_go _ (fun k=>?_) (l1 0 (Nat.zero_le _) fun _ _=>false)
  simp only [impl_closure.l0];rw [if_neg (by omega),List.take_of_length_le (by rw [tbl_length];omega),List.drop_of_length_le (by simp),List.append_nil];rfl
 ·intro i hi ih
  have hlen:((tbl n fun _ _=>false).take i++(List.replicate n ([]:List Bool)).drop i).length=n:=by simp [tbl];omega
  refine ev_go _ (fun k=>?_) ih
  simp only [impl_closure.l0]
  rw [if_pos (by omega),if_pos (by omega),if_pos (by omega),if_pos (by omega),if_pos (by rw [hlen];omega),wr1 (by omega)]
  have:=set_copy (l:=tbl n fun _ _=>false) (z:=List.replicate n ([]:List Bool)) (i:=i) (by rw [tbl_length];exact hi) (by simpa using hi)
  rw [←this]
  simp [tbl,List.map_const']

theorem spec_l4Table.ev (n:Nat) (E:List A2) (hn:n≤8) (hE:E.length≤1000000) (hin:EdgIn n E):Ev (fun k=>spec_l4Table.f k (n:Int) E) (tbl n (cloF n E)):=by
 unfold spec_l4Table.f
 have l4:∀ (a i:Nat) (R:List (List Bool)),a<n→i<n→∀ j,j≤n→∀ f:BF,Ev (fun k=>spec_l4Table.l3 k (n:Int) (tbl n (fwJ a i ((List.range n).drop j) f)) (a:Int) ((i + 1:Nat):Int)) R→Ev (fun k=>spec_l4Table.l4 k (n:Int) (tbl n f) (a:Int) (i:Int) (j:Int)) R:=by
  intro a i R ha hi
  refine rev_ind (P:=fun j=>∀ f:BF,Ev (fun k=>spec_l4Table.l3 k (n:Int) (tbl n (fwJ a i ((List.range n).drop j) f)) (a:Int) ((i + 1:Nat):Int)) R→Ev (fun k=>spec_l4Table.l4 k (n:Int) (tbl n f) (a:Int) (i:Int) (j:Int)) R) n ?_ ?_
  ·intro f h
   rw [List.drop_of_length_le (by simp)] at h
   refine ev_go _ (fun k=>?_) h
   simp only [spec_l4Table.l4];rw [if_neg (by omega),wr1 (by omega)];rfl
  ·intro j hj ih f h
   rw [range_drop hj] at h
   have hs:=ih (fwS a i j f) h
   refine ev_go _ (fun k=>?_) hs
   simp only [spec_l4Table.l4]
   rw [if_pos (by omega),if_pos (by omega),if_pos (by rw [tbl_length];omega),if_pos (by omega),if_pos (by rw [tbl_rowlen hi];omega),tbl_at hi ha,wr1 (by omega)]
   simp only [Int.toNat_natCast]
   by_cases c2:f i a=true
   ·rw [if_pos c2,if_pos (by rw [tbl_length];omega),if_pos (by omega),if_pos (by rw [tbl_rowlen ha];omega),tbl_at ha hj]
    by_cases c1:f a j=true
    ·rw [if_pos c1,if_pos (by rw [tbl_rowlen hi];omega),tbl_set hi hj,fwS,c1,c2];simp
    ·have c1:f a j=false:=by simpa using c1
     rw [if_neg (by rw [c1];simp),fwS_same a i j f (by rw [c1,Bool.and_false])]
   ·have c2:f i a=false:=by simpa using c2
    rw [if_neg (by rw [c2];simp),fwS_same a i j f (by rw [c2,Bool.false_and])]
 have l3:∀ (a:Nat) (R:List (List Bool)),a<n→∀ i,i≤n→∀ f:BF,Ev (fun k=>spec_l4Table.l2 k (n:Int) (tbl n (fwI n a ((List.range n).drop i) f)) ((a + 1:Nat):Int)) R→Ev (fun k=>spec_l4Table.l3 k (n:Int) (tbl n f) (a:Int) (i:Int)) R:=by
  intro a R ha
  refine rev_ind (P:=fun i=>∀ f:BF,Ev (fun k=>spec_l4Table.l2 k (n:Int) (tbl n (fwI n a ((List.range n).drop i) f)) ((a + 1:Nat):Int)) R→Ev (fun k=>spec_l4Table.l3 k (n:Int) (tbl n f) (a:Int) (i:Int)) R) n ?_ ?_
  ·intro f h
   rw [List.drop_of_length_le (by simp)] at h
   refine ev_go _ (fun k=>?_) h
   simp only [spec_l4Table.l3];rw [if_neg (by omega),wr1 (by omega)];rfl
  ·intro i hi ih f h
   rw [range_drop hi] at h
   refine ev_go (fun k=>spec_l4Table.l4 k (n:Int) (tbl n f) (a:Int) (i:Int) 0) (fun k=>?_) (l4 a i R ha hi 0 (Nat.zero_le _) f (ih _ h))
   simp only [spec_l4Table.l3];rw [if_pos (by omega)]
 have l2:∀ a,a≤n→∀ f:BF,Ev (fun k=>spec_l4Table.l2 k (n:Int) (tbl n f) (a:Int)) (tbl n (fwK n ((List.range n).drop a) f)):=by
  refine rev_ind (P:=fun a=>∀ f:BF,Ev (fun k=>spec_l4Table.l2 k (n:Int) (tbl n f) (a:Int)) (tbl n (fwK n ((List.range n).drop a) f))) n ?_ ?_
  ·intro f
   rw [List.drop_of_length_le (by simp)]
   refine ev_stop fun k=>?_
   simp only [spec_l4Table.l2];rw [if_neg (by omega)];rfl
  ·intro a ha ih f
   rw [range_drop ha]
   refine ev_go (fun k=>spec_l4Table.l3 k (n:Int) (tbl n f) (a:Int) 0) (fun k=>?_) (l3 a _ ha 0 (Nat.zero_le _) f (ih _))
   simp only [spec_l4Table.l2];rw [if_pos (by omega)]
 have l1:∀ i,i≤E.length→∀ f:BF,Ev (fun k=>spec_l4Table.l1 k (n:Int) E (tbl n f) (i:Int)) (tbl n (fwK n (List.range n) (edgF (E.drop i) f))):=by
  refine rev_ind (P:=fun i=>∀ f:BF,Ev (fun k=>spec_l4Table.l1 k (n:Int) E (tbl n f) (i:Int)) (tbl n (fwK n (List.range n) (edgF (E.drop i) f)))) E.length ?_ ?_
  ·intro f
   rw [List.drop_length]
   refine ev_go _ (fun k=>?_) (l2 0 (Nat.zero_le _) f)
   simp only [spec_l4Table.l1];rw [if_neg (by omega)];rfl
  ·intro i hi ih f
   obtain ⟨⟨h1,h2⟩,h3,h4⟩:=hin _ (List.getElem_mem hi)
   rw [drop_cons hi,edgF]
   refine ev_go _ (fun k=>?_) (ih _)
   obtain ⟨x,hx⟩:=Int.eq_ofNat_of_zero_le h1
   obtain ⟨y,hy⟩:=Int.eq_ofNat_of_zero_le h3
   simp only [spec_l4Table.l1]
   rw [if_pos (by omega),if_pos (by omega),rdA2 hi,hx,hy,if_pos (by omega),if_pos (by rw [tbl_length];omega),if_pos (by omega),if_pos (by rw [tbl_rowlen (by omega)];omega),wr1 (by omega)]
   simp only [Int.toNat_natCast]
   rw [tbl_set (by omega) (by omega)]
 have l0:=rev_ind (P:=fun i=>Ev (fun k=>spec_l4Table.l0 k (n:Int) E ((tbl n fun _ _=>false).take i) (i:Int)) (tbl n (cloF n E))) n ?_ ?_ 0 (Nat.zero_le _)
 ·simpa using l0
 ·refine ev_go _ (fun k=>?_) (l1 0 (Nat.zero_le _) fun _ _=>false)
  simp only [spec_l4Table.l0];rw [if_neg (by omega),List.take_of_length_le (by rw [tbl_length];omega)];rfl
 ·intro i hi ih
  have ht:(tbl n fun _ _=>false).take i++[List.replicate n false]=(tbl n fun _ _=>false).take (i + 1):=by
   rw [List.take_succ_eq_append_getElem (by rw [tbl_length];exact hi)]
   simp [tbl,List.map_const']
  rw [←ht] at ih
  refine ev_go _ (fun k=>?_) ih
  simp only [spec_l4Table.l0]
  rw [if_pos (by omega),if_pos (by omega),if_pos (by omega),if_pos (by rw [List.length_take,tbl_length];omega),wr1 (by omega)]
  rfl

theorem foldl_keep {α β:Type} (P:α→Prop) (u:α→β→α) (h:∀ a b,P a→P (u a b)):∀ (L:List β) (a:α),P a→P (L.foldl u a)
 | [],a,ha=>ha
 | b::L,a,ha=>by rw [List.foldl_cons];exact foldl_keep P u h L _ (h a b ha)
theorem fwK_keep (P:BF→Prop) (h:∀ k i j f,P f→P (fwS k i j f)) (n:Nat) (L:List Nat) (f:BF) (hf:P f):P (fwK n L f):=
 foldl_keep P _ (fun f k hf=>foldl_keep P _ (fun f i hf=>foldl_keep P _ (fun f j hf=>h k i j f hf) _ f hf) _ f hf) L f hf
theorem edgF_true (a b:Nat):∀ (E:List A2) (f:BF),f a b=true→edgF E f a b=true
 | [],f,h=>h
 | e::E,f,h=>by
  rw [edgF]
  refine edgF_true a b E _ ?_
  unfold upd2;split
  ·rfl
  ·exact h
theorem edgF_mem:∀ (E:List A2) (f:BF) (e:A2),e ∈ E→edgF E f e.f0.toNat e.f1.toNat=true
 | [],_,_,h=>absurd h (by simp)
 | d::E,f,e,h=>by
  rw [edgF]
  rcases List.mem_cons.1 h with rfl|h
  ·exact edgF_true _ _ E _ (by simp [upd2])
  ·exact edgF_mem E _ e h
theorem edgF_le (R:Nat→Nat→Prop):∀ (E:List A2) (f:BF),(∀ e ∈ E,R e.f0.toNat e.f1.toNat)→(∀ a b,f a b=true→R a b)→∀ a b,edgF E f a b=true→R a b
 | [],f,_,hf=>hf
 | e::E,f,hE,hf=>by
  rw [edgF]
  refine edgF_le R E _ (fun d hd=>hE d (List.mem_cons_of_mem _ hd)) fun a b h=>?_
  unfold upd2 at h
  split at h
  ·rename_i h2;rw [h2.1,h2.2];exact hE e List.mem_cons_self
  ·exact hf a b h
theorem clo_edge (n:Nat) (E:List A2) {e:A2} (he:e ∈ E):cloF n E e.f0.toNat e.f1.toNat=true:=
 fwK_keep (fun f=>f e.f0.toNat e.f1.toNat=true) (fun k i j f h=>by
  unfold fwS upd2
  split
  ·rename_i h2;rw [←h2.1,←h2.2,h,Bool.true_or]
  ·exact h) n _ _ (edgF_mem E _ e he)
theorem clo_le (R:Nat→Nat→Prop) (htr:∀ a b c,R a b→R b c→R a c) (n:Nat) (E:List A2) (hE:∀ e ∈ E,R e.f0.toNat e.f1.toNat):∀ a b,cloF n E a b=true→R a b:=
 fwK_keep (fun f=>∀ a b,f a b=true→R a b) (fun k i j f h a b hab=>by
  unfold fwS upd2 at hab
  split at hab
  ·rename_i h2
   rw [h2.1,h2.2]
   rw [Bool.or_eq_true,Bool.and_eq_true] at hab
   rcases hab with h3 | ⟨h3,h4⟩
   ·exact h _ _ h3
   ·exact htr _ _ _ (h _ _ h3) (h _ _ h4)
  ·exact h a b hab) n _ _ (edgF_le R E _ hE (fun a b h=>by simp at h))

def LexLt (a b:A2):Prop:=a.f0<b.f0∨a.f0=b.f0∧a.f1<b.f1
instance (a b:A2):Decidable (LexLt a b):=inferInstanceAs (Decidable (_∨_))
def eAt (E:List A2) (i:Nat):A2:=rd_T72 E (i:Int)
theorem eAt_eq {E:List A2} {i:Nat} (h:i<E.length):eAt E i=E[i]:=rdA2 h
/-- What is asked of a pair (m: the greatest number). -/
def PairAt (m:Int) (E:List A2) (i:Nat):Prop:=(0≤(eAt E i).f0∧(eAt E i).f0≤m)∧(0≤(eAt E i).f1∧(eAt E i).f1≤m)∧(eAt E i).f0≠(eAt E i).f1∧(i=0∨LexLt (eAt E (i - 1)) (eAt E i))
instance (m:Int) (E:List A2) (i:Nat):Decidable (PairAt m E i):=inferInstanceAs (Decidable (_∧_))
def PairsOk (n:Int) (E:List A2):Prop:=(0≤n∧n≤8)∧E.length≤28∧∀ i,i<E.length→PairAt (n - 1) E i
def DiagOk (n:Nat) (f:BF):Prop:=∀ i,i<n→f i i=false
def PrecOk (n:Int) (E:List A2):Prop:=PairsOk n E∧DiagOk n.toNat (cloF n.toNat E)
theorem PairsOk.edg {n:Nat} {E:List A2} (h:∀ i,i<E.length→PairAt ((n:Int) - 1) E i):EdgIn n E:=by
 intro e he
 obtain ⟨i,hi,rfl⟩:=List.getElem_of_mem he
 have:=h i hi
 unfold PairAt at this
 rw [eAt_eq hi] at this
 omega

theorem wf_lim {n:Int} (h:(Lit.int .i64 n).wf=true) : -9223372036854775808≤n∧n≤9223372036854775807:=by
 simp [Lit.wf,IntKind.min,IntKind.max,IntKind.signed,IntKind.bits] at h
 omega
theorem spec_l4Before.eq (a b:A2):spec_l4Before.f a.f0 a.f1 b.f0 b.f1=some (decide (LexLt a b)):=by
 unfold spec_l4Before.f
 by_cases h:a.f0<b.f0
 ·rw [if_pos h,decide_eq_true (show LexLt a b from .inl h)]
 ·rw [if_neg h]
  by_cases h2:a.f0=b.f0
  ·rw [if_pos h2]
   by_cases h3:a.f1<b.f1
   ·rw [decide_eq_true h3,decide_eq_true (show LexLt a b from .inr ⟨h2,h3⟩)]
   ·rw [decide_eq_false h3,decide_eq_false (show ¬ LexLt a b from by rintro (h4|h4);exact h h4;exact h3 h4.2)]
  ·rw [if_neg h2,decide_eq_false (show ¬ LexLt a b from by rintro (h4|h4);exact h h4;exact h2 h4.1)]
theorem spec_l4Pairs.ev (n:Int) (E:List A2) (hn:(Lit.int .i64 n).wf=true) (hE:E.length≤1000000000):EvB (fun k=>spec_l4Pairs.f k n E) (PairsOk n E):=by
 have hn2 : -9223372036854775808≤n∧n≤9223372036854775807:=wf_lim hn
 unfold spec_l4Pairs.f
 have key:=evB_loop E.length (fun i k=>spec_l4Pairs.l0 k n E (i:Int)) (fun i=>PairAt (wrap64 (n - 1)) E i) ((0≤n∧n≤8)∧E.length≤28) ?_ ?_
 ·refine evB_iff key ⟨fun h=>?_,fun h=>?_⟩
  ·have hw:wrap64 (n - 1)=n - 1:=wr (by omega) (by omega)
   rw [hw] at h
   exact ⟨h.2.1,h.2.2,h.1⟩
  ·have hw:wrap64 (n - 1)=n - 1:=wr (by have:=h.1;omega) (by have:=h.1;omega)
   rw [hw]
   exact ⟨h.2.2,h.1,h.2.1⟩
 ·refine evB_of (fun h=>ev_stop fun k=>?_) (fun h=>ev_stop fun k=>?_)
  ·simp only [spec_l4Pairs.l0];rw [if_neg (by omega),spec_l1In.eq,Option.bind_some,if_pos (by simpa using h.1),decide_eq_true (by omega)]
  ·simp only [spec_l4Pairs.l0];rw [if_neg (by omega),spec_l1In.eq,Option.bind_some]
   by_cases h1:0≤n∧n≤8
   ·rw [if_pos (by simpa using h1),decide_eq_false (by omega)]
   ·rw [if_neg (by simpa using h1)]
 ·intro i hi R hR
  refine evB_leaf _ (fun h k=>?_) (fun h k=>?_) hR
  ·obtain ⟨h1,h2,h3,h4⟩:=h
   simp only [eAt] at h1 h2 h3 h4
   simp only [spec_l4Pairs.l0]
   rw [if_pos (by omega),if_pos (by omega),spec_l1In.eq,Option.bind_some,if_pos (by simpa using h1),spec_l1In.eq,Option.bind_some,if_pos (by simpa using h2),if_neg h3,wr1 (by omega)]
   by_cases h5:i=0
   ·rw [if_neg (by omega)]
   ·have hw:wrap64 ((i:Int) - 1)=((i - 1:Nat):Int):=by rw [wr (by omega) (by omega)];omega
    rw [if_pos (by omega),hw,if_pos (by omega),if_pos (by omega),spec_l4Before.eq,Option.bind_some,if_pos (by simpa using h4.resolve_left h5)]
  ·simp only [spec_l4Pairs.l0]
   rw [if_pos (by omega),if_pos (by omega),spec_l1In.eq,Option.bind_some]
   by_cases h1:0≤(rd_T72 E (i:Int)).f0∧(rd_T72 E (i:Int)).f0≤wrap64 (n - 1)
   ·rw [if_pos (by simpa using h1),spec_l1In.eq,Option.bind_some]
    by_cases h2:0≤(rd_T72 E (i:Int)).f1∧(rd_T72 E (i:Int)).f1≤wrap64 (n - 1)
    ·rw [if_pos (by simpa using h2)]
     by_cases h3:(rd_T72 E (i:Int)).f0=(rd_T72 E (i:Int)).f1
     ·rw [if_pos h3]
     ·rw [if_neg h3]
      have h5:¬ (i=0):=fun h5=>h ⟨h1,h2,h3,.inl h5⟩
      have hw:wrap64 ((i:Int) - 1)=((i - 1:Nat):Int):=by rw [wr (by omega) (by omega)];omega
      rw [if_pos (by omega),hw,if_pos (by omega),if_pos (by omega),spec_l4Before.eq,Option.bind_some,if_neg (by intro h6;exact h ⟨h1,h2,h3,.inr (by simpa [eAt] using h6)⟩)]
    ·rw [if_neg (by simpa using h2)]
   ·rw [if_neg (by simpa using h1)]
theorem spec_l4Good.ev (n:Int) (E:List A2) (hn:(Lit.int .i64 n).wf=true) (hE:E.length≤1000000000):EvB (fun k=>spec_l4Good.f k n E) (PrecOk n E):=by
 unfold spec_l4Good.f
 have e1:=spec_l4Pairs.ev n E hn hE
 by_cases h:PairsOk n E
 ·obtain ⟨m,rfl⟩:=Int.eq_ofNat_of_zero_le h.1.1
  have h8:=h.1
  have h28:=h.2.1
  have e2:=spec_l4Table.ev m E (by omega) (by omega) (PairsOk.edg h.2.2)
  generalize hf:cloF m E=f at e2
  have e3:EvB (fun k=>spec_l4Good.l0 k (m:Int) (tbl m f) 0) (DiagOk m f):=by
   have key:=evB_loop m (fun i k=>spec_l4Good.l0 k (m:Int) (tbl m f) (i:Int)) (fun i=>f i i=false) True ?_ ?_
   ·exact evB_iff key ⟨fun h=>h.1,fun h=>⟨h,trivial⟩⟩
   ·exact evB_of (fun _=>ev_stop fun k=>by simp only [spec_l4Good.l0];rw [if_neg (by omega)]) (fun h=>absurd trivial h)
   ·intro i hi R hR
    refine evB_leaf _ (fun h k=>?_) (fun h k=>?_) hR
    ·simp only [spec_l4Good.l0];rw [if_pos (by omega),if_pos (by omega),if_pos (by rw [tbl_length];omega),if_pos (by rw [tbl_rowlen hi];omega),tbl_at hi hi,h,if_neg (by simp),wr1 (by omega)]
    ·simp only [spec_l4Good.l0];rw [if_pos (by omega),if_pos (by omega),if_pos (by rw [tbl_length];omega),if_pos (by rw [tbl_rowlen hi];omega),tbl_at hi hi,if_pos (by simpa using h)]
  obtain ⟨b,hb,eb⟩:=e3
  refine ⟨b,ev_guard' e1 (fun _=>ev_bind _ e2 hb) (fun hn=>absurd h hn),eb.trans ⟨fun h2=>⟨h,by rw [Int.toNat_natCast,hf];exact h2⟩,fun h2=>by have:=h2.2;rwa [Int.toNat_natCast,hf] at this⟩⟩
 ·exact evB_of (fun h2=>absurd h2.1 h) (fun _=>ev_guard' e1 (fun h2=>absurd h2 h) (fun _=>Ev.now _))

theorem impl_IsPrecedence.ev (n:Int) (E:List A2) (hE:E.length≤1000000000):EvB (fun k=>impl_IsPrecedence.f k n E) (PrecOk n E):=by
 unfold impl_IsPrecedence.f
 by_cases h0:0≤n∧n≤8
 ·obtain ⟨m,rfl⟩:=Int.eq_ofNat_of_zero_le h0.1
  have w0:(fun k=>(impl_within.f (m:Int) 0 8).bind fun t197=>(if t197=true then (impl_IsPrecedence.j0 k (m:Int) E (decide ((E.length:Int)>28))) else (impl_IsPrecedence.j0 k (m:Int) E true)))=fun k=>impl_IsPrecedence.j0 k (m:Int) E (decide ((E.length:Int)>28)):=funext fun k=>by rw [impl_within.eq,Option.bind_some,if_pos (by simpa using h0)]
  rw [w0]
  by_cases h28:E.length≤28
  ·rw [decide_eq_false (by omega)]
   have key:=evB_loopC E.length (fun i k=>impl_IsPrecedence.l0 k (m:Int) E E (E.length:Int) (i:Int)) (fun i=>PairAt ((m:Int) - 1) E i) (DiagOk m (cloF m E)) ?_ ?_
   ·refine evB_iff (evB_step (fun k=>impl_IsPrecedence.l0 k (m:Int) E E (E.length:Int) 0) (fun k=>by simp only [impl_IsPrecedence.j0];rw [if_neg (by simp)]) key) ⟨fun h=>⟨⟨h0,h28,h.1⟩,by rw [Int.toNat_natCast];exact h.2⟩,fun h=>⟨h.1.2.2,by have:=h.2;rwa [Int.toNat_natCast] at this⟩⟩
   ·intro hall
    have e2:=impl_closure.ev m E (by omega) (by omega) (PairsOk.edg hall)
    generalize cloF m E=f at e2
    have key:=evB_loop m (fun i k=>impl_IsPrecedence.l1 k (tbl m f) (m:Int) (i:Int)) (fun i=>f i i=false) True ?_ ?_
    ·obtain ⟨b,hb,eb⟩:=key
     refine ⟨b,ev_go (fun k=>(impl_closure.f k (m:Int) E).bind fun t=>impl_IsPrecedence.l1 k t (t.length:Int) 0) (fun k=>?_) (ev_bind _ e2 (by simp only [tbl_length];exact hb)),eb.trans ⟨fun h=>h.1,fun h=>⟨h,trivial⟩⟩⟩
     simp only [impl_IsPrecedence.l0];rw [if_neg (by omega)]
    ·exact evB_of (fun _=>ev_stop fun k=>by simp only [impl_IsPrecedence.l1];rw [if_neg (by omega)]) (fun h=>absurd trivial h)
    ·intro i hi R hR
     refine evB_leaf _ (fun h k=>?_) (fun h k=>?_) hR
     ·simp only [impl_IsPrecedence.l1];rw [if_pos (by omega),if_pos (by omega),if_pos (by rw [tbl_length];omega),if_pos (by rw [tbl_rowlen hi];omega),tbl_at hi hi,h,if_neg (by simp),wr1 (by omega)]
     ·simp only [impl_IsPrecedence.l1];rw [if_pos (by omega),if_pos (by omega),if_pos (by rw [tbl_length];omega),if_pos (by rw [tbl_rowlen hi];omega),tbl_at hi hi,if_pos (by simpa using h)]
   ·intro i hi _ R hR
    have jt:∀ a b,Ev (fun k=>impl_IsPrecedence.j2 k (m:Int) E (i:Int) E (E.length:Int) (i:Int) true a b) false:=fun a b=>ev_stop fun k=>by simp only [impl_IsPrecedence.j2];rw [if_pos trivial]
    by_cases h1:0≤(rd_T72 E (i:Int)).f0∧(rd_T72 E (i:Int)).f0<(m:Int)
    ·by_cases h2:0≤(rd_T72 E (i:Int)).f1∧(rd_T72 E (i:Int)).f1<(m:Int)
     ·by_cases h3:(rd_T72 E (i:Int)).f0=(rd_T72 E (i:Int)).f1
      ·refine evB_of (fun h=>absurd h3 h.1.2.2.1) (fun _=>ev_go _ (fun k=>?_) (jt (rd_T72 E (i:Int)).f0 (rd_T72 E (i:Int)).f1))
       simp only [impl_IsPrecedence.l0];rw [if_pos (by omega),if_pos (by omega),if_pos (by omega),impl_isNumber.eq _ _ (by omega) (by omega),Option.bind_some,if_pos (by simpa using h1),impl_isNumber.eq _ _ (by omega) (by omega),Option.bind_some,if_pos (by simpa using h2),beq_iff_eq.2 h3]
      ·refine evB_step (fun k=>impl_IsPrecedence.j2 k (m:Int) E (i:Int) E (E.length:Int) (i:Int) false (rd_T72 E (i:Int)).f0 (rd_T72 E (i:Int)).f1) (fun k=>?_) ?_
       ·simp only [impl_IsPrecedence.l0];rw [if_pos (by omega),if_pos (by omega),if_pos (by omega),impl_isNumber.eq _ _ (by omega) (by omega),Option.bind_some,if_pos (by simpa using h1),impl_isNumber.eq _ _ (by omega) (by omega),Option.bind_some,if_pos (by simpa using h2),beq_eq_false_iff_ne.2 h3]
       ·by_cases h5:i=0
        ·have hP:PairAt ((m:Int) - 1) E i:=by
          simp only [PairAt,eAt];exact ⟨by omega,by omega,h3,.inl h5⟩
         refine evB_iff (evB_step _ (fun k=>?_) (hR hP)) ⟨fun h=>⟨hP,h⟩,fun h=>h.2⟩
         simp only [impl_IsPrecedence.j2];rw [if_neg (by simp),if_neg (by omega),wr1 (by omega)]
        ·have hw:wrap64 ((i:Int) - 1)=((i - 1:Nat):Int):=by rw [wr (by omega) (by omega)];omega
         by_cases h6:LexLt (rd_T72 E ((i - 1:Nat):Int)) (rd_T72 E (i:Int))
         ·have hP:PairAt ((m:Int) - 1) E i:=by
           simp only [PairAt,eAt];exact ⟨by omega,by omega,h3,.inr h6⟩
          refine evB_iff (evB_step _ (fun k=>?_) (hR hP)) ⟨fun h=>⟨hP,h⟩,fun h=>h.2⟩
          unfold LexLt at h6
          simp only [impl_IsPrecedence.j2]
          rw [if_neg (by simp),if_pos (by omega),hw,if_pos (by omega),if_pos (by omega),if_neg (by omega),wr1 (by omega)]
          by_cases h7:(rd_T72 E ((i - 1:Nat):Int)).f0=(rd_T72 E (i:Int)).f0
          ·rw [if_pos h7,if_neg (by omega)]
          ·rw [if_neg h7]
         ·refine evB_of (fun h=>absurd (h.1.2.2.2.resolve_left h5) h6) (fun _=>ev_stop fun k=>?_)
          unfold LexLt at h6
          simp only [impl_IsPrecedence.j2]
          rw [if_neg (by simp),if_pos (by omega),hw,if_pos (by omega),if_pos (by omega)]
          by_cases h8:(rd_T72 E ((i - 1:Nat):Int)).f0>(rd_T72 E (i:Int)).f0
          ·rw [if_pos h8]
          ·rw [if_neg h8,if_pos (by omega),if_pos (by omega)]
     ·refine evB_of (fun h=>absurd h.1.2.1 (by simp only [eAt];omega)) (fun _=>ev_go _ (fun k=>?_) (jt (rd_T72 E (i:Int)).f0 (rd_T72 E (i:Int)).f1))
      simp only [impl_IsPrecedence.l0];rw [if_pos (by omega),if_pos (by omega),if_pos (by omega),impl_isNumber.eq _ _ (by omega) (by omega),Option.bind_some,if_pos (by simpa using h1),impl_isNumber.eq _ _ (by omega) (by omega),Option.bind_some,if_neg (by simpa using h2)]
    ·refine evB_of (fun h=>absurd h.1.1 (by simp only [eAt];omega)) (fun _=>ev_go _ (fun k=>?_) (jt (rd_T72 E (i:Int)).f0 (rd_T72 E (i:Int)).f1))
     simp only [impl_IsPrecedence.l0];rw [if_pos (by omega),if_pos (by omega),if_pos (by omega),impl_isNumber.eq _ _ (by omega) (by omega),Option.bind_some,if_neg (by simpa using h1)]
  ·rw [decide_eq_true (by omega)]
   refine evB_of (fun h=>absurd h.1.2.1 h28) (fun _=>ev_stop fun k=>?_)
   simp only [impl_IsPrecedence.j0];rw [if_pos trivial]
 ·have w0:(fun k=>(impl_within.f n 0 8).bind fun t197=>(if t197=true then (impl_IsPrecedence.j0 k n E (decide ((E.length:Int)>28))) else (impl_IsPrecedence.j0 k n E true)))=fun k=>impl_IsPrecedence.j0 k n E true:=funext fun k=>by rw [impl_within.eq,Option.bind_some,if_neg (by simpa using h0)]
  rw [w0]
  refine evB_of (fun h=>absurd h.1.1 h0) (fun _=>ev_stop fun k=>?_)
  simp only [impl_IsPrecedence.j0];rw [if_pos trivial]

theorem fwJ_eq (k i:Nat):∀ (L:List Nat) (f:BF),L.Nodup→∀ a b,fwJ k i L f a b=if a=i∧b ∈ L then (f i b || (f i k && f k b)) else f a b
 | [],f,_,a,b=>by simp [fwJ]
 | j::L,f,hn,a,b=>by
  have hj:=List.nodup_cons.1 hn
  have ih:=fwJ_eq k i L (fwS k i j f) hj.2 a b
  have e:fwJ k i (j::L) f=fwJ k i L (fwS k i j f):=rfl
  rw [e,ih]
  have s:∀ c d,fwS k i j f c d=if c=i∧d=j then (f i j || (f i k && f k j)) else f c d:=fun c d=>rfl
  have sik:fwS k i j f i k=f i k:=by
   rw [s];split
   ·rename_i h;rw [←h.2];cases f i k <;> simp
   ·rfl
  by_cases ha:a=i
  ·subst ha
   by_cases hb:b=j
   ·subst hb
    rw [if_neg (by rintro ⟨_,h⟩;exact hj.1 h),if_pos ⟨rfl,List.mem_cons_self⟩,s,if_pos ⟨rfl,rfl⟩]
   ·have sb:∀ c,fwS k a j f c b=f c b:=fun c=>by rw [s,if_neg (by rintro ⟨_,h⟩;exact hb h)]
    by_cases hbl:b ∈ L
    ·rw [if_pos ⟨rfl,hbl⟩,if_pos ⟨rfl,List.mem_cons_of_mem _ hbl⟩,sb,sb,sik]
    ·rw [if_neg (by rintro ⟨_,h⟩;exact hbl h),if_neg (by rintro ⟨_,h⟩;rcases List.mem_cons.1 h with h|h;exact hb h;exact hbl h),sb]
  ·rw [if_neg (by rintro ⟨h,_⟩;exact ha h),if_neg (by rintro ⟨h,_⟩;exact ha h),s,if_neg (by rintro ⟨h,_⟩;exact ha h)]
theorem fwI_eq (n k:Nat):∀ (L:List Nat) (f:BF),L.Nodup→k<n→∀ a b,fwI n k L f a b=if a ∈ L∧b<n then (f a b || (f a k && f k b)) else f a b
 | [],f,_,_,a,b=>by simp [fwI]
 | i::L,f,hn,hk,a,b=>by
  have hj:=List.nodup_cons.1 hn
  have ih:=fwI_eq n k L (fwJ k i (List.range n) f) hj.2 hk a b
  have e:fwI n k (i::L) f=fwI n k L (fwJ k i (List.range n) f):=rfl
  rw [e,ih]
  have s:∀ c d,fwJ k i (List.range n) f c d=if c=i∧d ∈ List.range n then (f i d || (f i k && f k d)) else f c d:=fwJ_eq k i _ f List.nodup_range
  have sk:∀ d,fwJ k i (List.range n) f k d=f k d:=fun d=>by
   rw [s];split
   ·rename_i h;rw [←h.1];cases f k d <;> cases f k k <;> simp
   ·rfl
  by_cases ha:a=i
  ·subst ha
   rw [if_neg (by rintro ⟨h,_⟩;exact hj.1 h),s]
   by_cases hb:b<n
   ·rw [if_pos ⟨rfl,List.mem_range.2 hb⟩,if_pos ⟨List.mem_cons_self,hb⟩]
   ·rw [if_neg (by rintro ⟨_,h⟩;exact hb (List.mem_range.1 h)),if_neg (by rintro ⟨_,h⟩;exact hb h)]
  ·have sa:∀ d,fwJ k i (List.range n) f a d=f a d:=fun d=>by rw [s,if_neg (by rintro ⟨h,_⟩;exact ha h)]
   rw [sa,sa,sk]
   by_cases hal:a ∈ L
   ·by_cases hb:b<n
    ·rw [if_pos ⟨hal,hb⟩,if_pos ⟨List.mem_cons_of_mem _ hal,hb⟩]
    ·rw [if_neg (by rintro ⟨_,h⟩;exact hb h),if_neg (by rintro ⟨_,h⟩;exact hb h)]
   ·rw [if_neg (by rintro ⟨h,_⟩;exact hal h),if_neg (by rintro ⟨h,_⟩;rcases List.mem_cons.1 h with h|h;exact ha h;exact hal h)]
/-- Closed under the jobs below k. -/
def ClosedTo (n k:Nat) (f:BF):Prop:=∀ i m j,i<n→j<n→m<k→m<n→f i m=true→f m j=true→f i j=true
theorem closed_step (n k:Nat) (f:BF) (hk:k<n) (h:ClosedTo n k f):ClosedTo n (k + 1) (fwI n k (List.range n) f):=by
 have s:=fwI_eq n k (List.range n) f List.nodup_range hk
 have t:∀ a b,a<n→b<n→(fwI n k (List.range n) f a b=true ↔ (f a b=true∨f a k=true∧f k b=true)):=fun a b ha hb=>by
  rw [s,if_pos ⟨List.mem_range.2 ha,hb⟩,Bool.or_eq_true,Bool.and_eq_true]
 intro i m j hi hj hm hmn h1 h2
 rw [t i m hi hmn] at h1
 rw [t m j hmn hj] at h2
 rw [t i j hi hj]
 by_cases e:m=k
 ·subst e
  have a1:f i m=true:=by rcases h1 with h|h;exact h;exact h.1
  have a2:f m j=true:=by rcases h2 with h|h;exact h;exact h.2
  exact .inr ⟨a1,a2⟩
 ·have hm':m<k:=by omega
  rcases h1 with h1 | ⟨h1,h1'⟩ <;> rcases h2 with h2 | ⟨h2,h2'⟩
  ·exact .inl (h i m j hi hj hm' hmn h1 h2)
  ·exact .inr ⟨h i m k hi hk hm' hmn h1 h2,h2'⟩
  ·exact .inr ⟨h1,h k m j hk hj hm' hmn h1' h2⟩
  ·exact .inr ⟨h1,h2'⟩
theorem closed_all (n:Nat) (f:BF):ClosedTo n n (fwK n (List.range n) f):=by
 have key:∀ k,k≤n→ClosedTo n k (fwK n (List.range k) f):=by
  intro k
  induction k with
  | zero=>intro _ i m j _ _ hm;omega
  | succ k ih=>
   intro hk
   have e:fwK n (List.range (k + 1)) f=fwI n k (List.range n) (fwK n (List.range k) f):=by
    unfold fwK;rw [List.range_succ,List.foldl_append];rfl
   rw [e]
   exact closed_step n k _ (by omega) (ih (by omega))
 exact key n (Nat.le_refl _)
theorem clo_trans {n:Nat} {E:List A2} {i m j:Nat} (hi:i<n) (hm:m<n) (hj:j<n) (h1:cloF n E i m=true) (h2:cloF n E m j=true):cloF n E i j=true:=
 closed_all n (edgF E fun _ _=>false) i m j hi hj hm hm h1 h2
/-- A precedence, as a table. -/
structure PreF (n:Nat) (f:BF):Prop where
 irr:∀ i,i<n→f i i=false
 tr:∀ i m j,i<n→m<n→j<n→f i m=true→f m j=true→f i j=true
theorem preF_of {n:Nat} {E:List A2} (h:DiagOk n (cloF n E)):PreF n (cloF n E):=⟨h,fun _ _ _ hi hm hj h1 h2=>clo_trans hi hm hj h1 h2⟩
/-- How many jobs are behind a job. -/
def cntF (n:Nat) (f:BF) (i:Nat):Nat:=((List.range n).filter fun j=>f i j).length
theorem filter_sub {α:Type} (p q:α→Bool):∀ l:List α,(∀ x ∈ l,p x=true→q x=true)→(l.filter p).length≤(l.filter q).length
 | [],_=>by simp
 | x::l,h=>by
  have ih:=filter_sub p q l (fun y hy=>h y (List.mem_cons_of_mem _ hy))
  by_cases hp:p x=true
  ·rw [List.filter_cons_of_pos hp,List.filter_cons_of_pos (h x List.mem_cons_self hp)];simp;exact ih
  ·rw [List.filter_cons_of_neg hp]
   by_cases hq:q x=true
   ·rw [List.filter_cons_of_pos hq];simp;omega
   ·rw [List.filter_cons_of_neg hq];exact ih
theorem filter_lt {α:Type} (p q:α→Bool) (a:α) (ha:p a=false) (hb:q a=true):∀ l:List α,a ∈ l→(∀ x ∈ l,p x=true→q x=true)→(l.filter p).length<(l.filter q).length
 | [],h,_=>absurd h (by simp)
 | x::l,h,hs=>by
  have sub:=filter_sub p q l (fun y hy=>hs y (List.mem_cons_of_mem _ hy))
  by_cases e:x=a
  ·subst e
   rw [List.filter_cons_of_neg (by simp [ha]),List.filter_cons_of_pos hb];simp;omega
  ·have hm:a ∈ l:=by rcases List.mem_cons.1 h with h|h;exact absurd h.symm e;exact h
   have ih:=filter_lt p q a ha hb l hm (fun y hy=>hs y (List.mem_cons_of_mem _ hy))
   by_cases hp:p x=true
   ·rw [List.filter_cons_of_pos hp,List.filter_cons_of_pos (hs x List.mem_cons_self hp)];simp;exact ih
   ·rw [List.filter_cons_of_neg hp]
    by_cases hq:q x=true
    ·rw [List.filter_cons_of_pos hq];simp;omega
    ·rw [List.filter_cons_of_neg hq];exact ih
theorem cnt_lt {n:Nat} {f:BF} (h:PreF n f) {i j:Nat} (hi:i<n) (hj:j<n) (hij:f i j=true):cntF n f j<cntF n f i:=
 filter_lt _ _ j (h.irr j hj) hij _ (List.mem_range.2 hj) (fun x hx hx2=>h.tr i j x hi hj (List.mem_range.1 hx) hij hx2)
theorem cnt_le {n:Nat} {f:BF} (h:PreF n f) {i:Nat} (hi:i<n):cntF n f i<n:=by
 have h1:=filter_lt (fun j=>f i j) (fun _=>true) i (h.irr i hi) rfl (List.range n) (List.mem_range.2 hi) (fun _ _ _=>rfl)
 have h2:((List.range n).filter fun _=>true).length=n:=by rw [List.filter_eq_self.2 (fun _ _=>rfl),List.length_range]
 unfold cntF
 omega

/-- The greatest of what lies behind a job. -/
def bestB (f:BF) (t:Nat→Int) (i:Nat):List Nat→Int→Int
 | [],s=>s
 | k::L,s=>bestB f t i L (if f i k=true then mx s (t k) else s)
theorem mx_ge2 (a b:Int):a≤mx a b∧b≤mx a b∧(mx a b=a∨mx a b=b):=by unfold mx;split <;> omega
theorem bestB_ge (f:BF) (t:Nat→Int) (i:Nat):∀ (L:List Nat) (s:Int),s≤bestB f t i L s∧∀ k ∈ L,f i k=true→t k≤bestB f t i L s
 | [],s=>⟨Int.le_refl _,fun k hk=>absurd hk (by simp)⟩
 | k::L,s=>by
  rw [bestB]
  have ih:=bestB_ge f t i L (if f i k=true then mx s (t k) else s)
  by_cases c:f i k=true
  ·rw [if_pos c] at ih ⊢
   have h3:=mx_ge2 s (t k)
   refine ⟨Int.le_trans h3.1 ih.1,fun q hq hf=>?_⟩
   rcases List.mem_cons.1 hq with rfl|hq
   ·exact Int.le_trans h3.2.1 ih.1
   ·exact ih.2 q hq hf
  ·rw [if_neg c] at ih ⊢
   refine ⟨ih.1,fun q hq hf=>?_⟩
   rcases List.mem_cons.1 hq with rfl|hq
   ·exact absurd hf c
   ·exact ih.2 q hq hf
theorem bestB_at (f:BF) (t:Nat→Int) (i:Nat):∀ (L:List Nat) (s:Int),bestB f t i L s=s∨∃ k,k ∈ L∧f i k=true∧bestB f t i L s=t k
 | [],s=>.inl rfl
 | k::L,s=>by
  rw [bestB]
  by_cases c:f i k=true
  ·rw [if_pos c]
   rcases bestB_at f t i L (mx s (t k)) with h | ⟨q,hq,hf,h⟩
   ·rcases (mx_ge2 s (t k)).2.2 with e|e
    ·exact .inl (h.trans e)
    ·exact .inr ⟨k,List.mem_cons_self,c,h.trans e⟩
   ·exact .inr ⟨q,List.mem_cons_of_mem _ hq,hf,h⟩
  ·rw [if_neg c]
   rcases bestB_at f t i L s with h | ⟨q,hq,hf,h⟩
   ·exact .inl h
   ·exact .inr ⟨q,List.mem_cons_of_mem _ hq,hf,h⟩
theorem bestB_congr (f:BF) (t u:Nat→Int) (i:Nat):∀ (L:List Nat) (s:Int),(∀ k ∈ L,f i k=true→t k=u k)→bestB f t i L s=bestB f u i L s
 | [],_,_=>rfl
 | k::L,s,h=>by
  rw [bestB,bestB]
  by_cases c:f i k=true
  ·rw [if_pos c,if_pos c,h k List.mem_cons_self c];exact bestB_congr f t u i L _ (fun q hq=>h q (List.mem_cons_of_mem _ hq))
  ·rw [if_neg c,if_neg c];exact bestB_congr f t u i L _ (fun q hq=>h q (List.mem_cons_of_mem _ hq))
def tmF (jobs:List J) (i:Nat):Int:=(rd_T76 jobs (i:Int)).f0
def tailN (jobs:List J) (f:BF):Nat→Nat→Int
 | 0,_=>0
 | d + 1,i=>tmF jobs i + bestB f (tailN jobs f d) i (List.range jobs.length) 0
/-- The tail of a job. -/
def TL (jobs:List J) (f:BF) (i:Nat):Int:=tailN jobs f jobs.length i
theorem tailN_stable (jobs:List J) {f:BF} (h:PreF jobs.length f):∀ (d i:Nat),i<jobs.length→cntF jobs.length f i<d→tailN jobs f d i=tailN jobs f (d + 1) i
 | 0,_,_,h2=>absurd h2 (by omega)
 | d + 1,i,hi,h2=>by
  rw [tailN,tailN]
  congr 1
  exact bestB_congr f _ _ i _ _ fun k hk hf=>tailN_stable jobs h d k (List.mem_range.1 hk) (by have:=cnt_lt h hi (List.mem_range.1 hk) hf;omega)
theorem tailN_up (jobs:List J) {f:BF} (h:PreF jobs.length f) (i:Nat) (hi:i<jobs.length):∀ (e d:Nat),cntF jobs.length f i<d→tailN jobs f d i=tailN jobs f (d + e) i
 | 0,d,_=>rfl
 | e + 1,d,hd=>by rw [←Nat.add_assoc,←tailN_stable jobs h (d + e) i hi (by omega)];exact tailN_up jobs h i hi e d hd
theorem TL_eq (jobs:List J) {f:BF} (h:PreF jobs.length f) (i:Nat) (hi:i<jobs.length):TL jobs f i=tmF jobs i + bestB f (TL jobs f) i (List.range jobs.length) 0:=by
 have h1:TL jobs f i=tailN jobs f (jobs.length + 1) i:=tailN_stable jobs h jobs.length i hi (cnt_le h hi)
 rw [h1,tailN]
 rfl
theorem TL_in (jobs:List J) (hj:JobsOk jobs) (f:BF):∀ (d i:Nat),i<jobs.length→0≤tailN jobs f d i∧tailN jobs f d i≤50 * (d:Int)
 | 0,_,_=>⟨Int.le_refl _,by simp [tailN]⟩
 | d + 1,i,hi=>by
  have ht:1≤tmF jobs i∧tmF jobs i≤50:=by unfold tmF;rw [rdJ hi];exact (hj.2 _ (List.getElem_mem hi)).1
  rw [tailN]
  have h1:=(bestB_ge f (tailN jobs f d) i (List.range jobs.length) 0).1
  have h2:bestB f (tailN jobs f d) i (List.range jobs.length) 0≤50 * (d:Int):=by
   rcases bestB_at f (tailN jobs f d) i (List.range jobs.length) 0 with e | ⟨k,hk,_,e⟩
   ·rw [e];omega
   ·rw [e];exact (TL_in jobs hj f d k (List.mem_range.1 hk)).2
  omega
theorem TL_pos (jobs:List J) (hj:JobsOk jobs) {f:BF} (h:PreF jobs.length f) (i:Nat) (hi:i<jobs.length):(1≤tmF jobs i∧tmF jobs i≤50)∧tmF jobs i≤TL jobs f i∧TL jobs f i≤400:=by
 have ht:1≤tmF jobs i∧tmF jobs i≤50:=by unfold tmF;rw [rdJ hi];exact (hj.2 _ (List.getElem_mem hi)).1
 have h8:=hj.1
 have h2:=(TL_in jobs hj f jobs.length i hi).2
 have h3:=(bestB_ge f (TL jobs f) i (List.range jobs.length) 0).1
 rw [TL_eq jobs h i hi]
 refine ⟨ht,by omega,?_⟩
 rw [←TL_eq jobs h i hi]
 unfold TL
 omega
def tailsL (jobs:List J) (f:BF):List Int:=(List.range jobs.length).map (TL jobs f)
theorem tailsL_len (jobs:List J) (f:BF):(tailsL jobs f).length=jobs.length:=by simp [tailsL]
theorem tailsL_rd (jobs:List J) (f:BF) {i:Nat} (h:i<jobs.length):rd (tailsL jobs f) (i:Int)=TL jobs f i:=by rw [rd_nat (by rw [tailsL_len];exact h)];simp [tailsL]

def ParOk (jobs:List J) (m:Int) (E:List A2):Prop:=PlainOk jobs∧(1≤m∧m≤4)∧PrecOk (jobs.length:Int) E
theorem ParOk.pre {jobs:List J} {m:Int} {E:List A2} (h:ParOk jobs m E):PreF jobs.length (cloF jobs.length E):=preF_of (by have:=h.2.2.2;rwa [Int.toNat_natCast] at this)

theorem spec_l7Good.ev (jobs:List J) (m:Int) (E:List A2) (hj:jobs.length≤1048576) (hE:E.length≤1000000000):EvB (fun k=>spec_l7Good.f k jobs m E) (ParOk jobs m E):=by
 unfold spec_l7Good.f
 have e1:=spec_l2Good.ev jobs (by omega)
 have e2:=spec_l3Plain.ev jobs (by omega)
 have e3:=spec_l4Good.ev (jobs.length:Int) E (by simp [Lit.wf,IntKind.min,IntKind.max,IntKind.signed,IntKind.bits];omega) hE
 simp only [spec_l1In.eq,Option.bind_some]
 refine evB_of (fun h=>?_) (fun h=>?_)
 ·refine ev_guard' e1 (fun _=>ev_guard' e2 (fun _=>?_) (fun hn=>absurd h.1.2 hn)) (fun hn=>absurd h.1.1 hn)
  simp only [decide_eq_true_eq,if_pos h.2.1]
  exact ev_bind _ (evB_true e3 h.2.2) (Ev.now _)
 ·refine ev_guard' e1 (fun h1=>ev_guard' e2 (fun h2=>?_) (fun _=>Ev.now _)) (fun _=>Ev.now _)
  by_cases h3:1≤m∧m≤4
  ·simp only [decide_eq_true_eq,if_pos h3]
   exact ev_bind _ (evB_false e3 (fun h4=>h ⟨⟨h1,h2⟩,h3,h4⟩)) (Ev.now _)
  ·simp only [decide_eq_true_eq,if_neg h3]
   exact Ev.now _

theorem impl_isParallel.ev (jobs:List J) (m:Int) (E:List A2) (hj:jobs.length≤1048576) (hE:E.length≤1000000000):EvB (fun k=>impl_isParallel.f k jobs m E) (ParOk jobs m E):=by
 unfold impl_isParallel.f
 have e1:=impl_IsPlain.ev jobs (by omega)
 have e3:=impl_IsPrecedence.ev (jobs.length:Int) E hE
 simp only [impl_within.eq,Option.bind_some]
 refine evB_of (fun h=>?_) (fun h=>?_)
 ·refine ev_guard' e1 (fun _=>?_) (fun hn=>absurd h.1 hn)
  simp only [decide_eq_true_eq,if_pos h.2.1]
  exact ev_bind _ (evB_true e3 h.2.2) (Ev.now _)
 ·refine ev_guard' e1 (fun h1=>?_) (fun _=>Ev.now _)
  by_cases h3:1≤m∧m≤4
  ·simp only [decide_eq_true_eq,if_pos h3]
   exact ev_bind _ (evB_false e3 (fun h4=>h ⟨h1,h3,h4⟩)) (Ev.now _)
  ·simp only [decide_eq_true_eq,if_neg h3]
   exact Ev.now _

end Go.Proofs.Ytbcfmegepkhlpaa.Pure
-- minified
