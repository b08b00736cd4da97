/- Proved here: what functions that the law FnExactLabelPlan reaches answer (lessBoth, folP, toldP, labelsBoth, core_LabelPlan). Conditions: those that each theorem names. -/
import Derived.Test.YtbcfmegepkhlpaaQFnExactLabelPlanxj
set_option linter.unusedVariables false
set_option linter.unusedSimpArgs false
namespace Go.Proofs.Ytbcfmegepkhlpaa.Pure
open Go.RowKit Go.Proofs.Ytbcfmegepkhlpaa.XFnExactLabelPlan Go.Proofs.YtbcfmegepkhlpaaW.PrintWords Go.Proofs.YtbcfmegepkhlpaaW.PrintLast

theorem less_both (a b:List Int) (hla:a.length≤1000000) (hlb:b.length≤1000000) (ha:∀ x ∈ a,0≤x∧x≤1000000) (hb:∀ x ∈ b,0≤x∧x≤1000000):∃ (c:Int) (d:Bool),Ev (fun k=>impl_compareLists.f k a b) c∧Ev (fun k=>spec_l5Less.f k a b) d∧(c<0 ↔ d=true):=by
 have fin:∀ i:Nat,i≤a.length→i≤b.length→(¬ (i<a.length∧i<b.length))→∃ (c:Int) (d:Bool),Ev (fun k=>impl_compareLists.j1 k a b (i:Int) false) c∧Ev (fun k=>spec_l5Less.j1 k a b (i:Int) false) d∧(c<0 ↔ d=true):=by
  intro i h1 h2 h3
  refine ⟨wrap64 ((a.length:Int) - (b.length:Int)),decide ((a.length:Int)<(b.length:Int)),ev_stop fun k=>?_,ev_stop fun k=>?_,?_⟩
  ·simp only [impl_compareLists.j1];rw [if_neg (by simp)]
  ·simp only [spec_l5Less.j1];rw [if_neg (by simp)]
  ·rw [wr (by omega) (by omega),decide_eq_true_eq];omega
 have key:=rev_ind (P:=fun i=>i≤b.length→∃ (c:Int) (d:Bool),Ev (fun k=>impl_compareLists.l0 k a b (i:Int)) c∧Ev (fun k=>spec_l5Less.l0 k a b (i:Int)) d∧(c<0 ↔ d=true)) a.length ?_ ?_ 0 (Nat.zero_le _) (Nat.zero_le _)
 ·simpa [impl_compareLists.f,spec_l5Less.f] using key
 ·intro hib
  obtain ⟨c,d,hc,hd,e⟩:=fin a.length (Nat.le_refl _) hib (by omega)
  refine ⟨c,d,ev_go _ (fun k=>?_) hc,ev_go _ (fun k=>?_) hd,e⟩
  ·simp only [impl_compareLists.l0];rw [if_neg (by omega)]
  ·simp only [spec_l5Less.l0];rw [if_neg (by omega)]
 ·intro i hi ih hib
  by_cases q:i<b.length
  ·have hq:decide ((i:Int)<(b.length:Int))=true:=decide_eq_true (by omega)
   by_cases e:a[i]=b[i]
   ·obtain ⟨c,d,hc,hd,e2⟩:=ih (by omega)
    refine ⟨c,d,ev_go (fun k=>impl_compareLists.j1 k a b (i:Int) true) (fun k=>?_) (ev_go (fun k=>impl_compareLists.l0 k a b ((i + 1:Nat):Int)) (fun k=>?_) hc),ev_go (fun k=>spec_l5Less.j1 k a b (i:Int) true) (fun k=>?_) (ev_go (fun k=>spec_l5Less.l0 k a b ((i + 1:Nat):Int)) (fun k=>?_) hd),e2⟩
    ·simp only [impl_compareLists.l0];rw [if_pos (by omega),hq]
    ·simp only [impl_compareLists.j1];rw [if_pos trivial,if_pos (by omega),if_pos (by omega),if_pos (by omega),rd_nat hi,rd_nat q,if_pos e,wr1 (by omega)]
    ·simp only [spec_l5Less.l0];rw [if_pos (by omega),hq]
    ·simp only [spec_l5Less.j1];rw [if_pos trivial,if_pos (by omega),if_pos (by omega),if_pos (by omega),rd_nat hi,rd_nat q,if_pos e,wr1 (by omega)]
   ·have h1:=ha _ (List.getElem_mem hi)
    have h2:=hb _ (List.getElem_mem q)
    refine ⟨wrap64 (a[i] - b[i]),decide (a[i]<b[i]),ev_go (fun k=>impl_compareLists.j1 k a b (i:Int) true) (fun k=>?_) (ev_stop fun k=>?_),ev_go (fun k=>spec_l5Less.j1 k a b (i:Int) true) (fun k=>?_) (ev_stop fun k=>?_),?_⟩
    ·simp only [impl_compareLists.l0];rw [if_pos (by omega),hq]
    ·simp only [impl_compareLists.j1];rw [if_pos trivial,if_pos (by omega),if_pos (by omega),if_pos (by omega),rd_nat hi,rd_nat q,if_neg e]
    ·simp only [spec_l5Less.l0];rw [if_pos (by omega),hq]
    ·simp only [spec_l5Less.j1];rw [if_pos trivial,if_pos (by omega),if_pos (by omega),if_pos (by omega),rd_nat hi,rd_nat q,if_neg e]
    ·rw [wr (by omega) (by omega),decide_eq_true_eq];omega
  ·have hq:decide ((i:Int)<(b.length:Int))=false:=decide_eq_false (by omega)
   obtain ⟨c,d,hc,hd,e⟩:=fin i (by omega) hib (by omega)
   refine ⟨c,d,ev_go _ (fun k=>?_) hc,ev_go _ (fun k=>?_) hd,e⟩
   ·simp only [impl_compareLists.l0];rw [if_pos (by omega),hq]
   ·simp only [spec_l5Less.l0];rw [if_pos (by omega),hq]

/-- the direct followers of a job, in their order -/
def folN (f:BF) (i:Nat) (n:Nat):Nat→Nat→List Int
 | 0,_=>[]
 | c + 1,j=>(if f i j=true∧dirR f i j n 0 true=true then [(j:Int)] else [])++folN f i n c (j + 1)
def folI (f:BF) (n i:Nat):List Int:=folN f i n n 0
theorem folN_mem (f:BF) (i n:Nat) (x:Int):∀ (c j:Nat),x ∈ folN f i n c j ↔ ∃ m,j≤m∧m<j + c∧f i m=true∧dirR f i m n 0 true=true∧x=(m:Int)
 | 0,j=>by simp [folN];omega
 | c + 1,j=>by
  rw [folN,List.mem_append,folN_mem f i n x c (j + 1)]
  constructor
  ·rintro (h | ⟨m,h1,h2,h3,h4,h5⟩)
   ·split at h
    ·rename_i hf
     exact ⟨j,by omega,by omega,hf.1,hf.2,by simpa using h⟩
    ·simp at h
   ·exact ⟨m,by omega,by omega,h3,h4,h5⟩
  ·rintro ⟨m,h1,h2,h3,h4,h5⟩
   by_cases e:m=j
   ·subst e;exact .inl (by rw [if_pos ⟨h3,h4⟩,h5];simp)
   ·exact .inr ⟨m,by omega,by omega,h3,h4,h5⟩
theorem folN_len (f:BF) (i n:Nat):∀ (c j:Nat),(folN f i n c j).length≤c
 | 0,_=>by simp [folN]
 | c + 1,j=>by
  have:=folN_len f i n c (j + 1)
  rw [folN,List.length_append]
  split <;> simp <;> omega
theorem folI_len (f:BF) (n i:Nat):(folI f n i).length≤n:=folN_len f i n n 0
theorem folI_in (f:BF) (n i:Nat):∀ x ∈ folI f n i,∃ m,m<n∧f i m=true∧x=(m:Int):=fun x hx=>by
 obtain ⟨m,h1,h2,h3,_,h5⟩:=(folN_mem f i n x n 0).1 hx
 exact ⟨m,by omega,h3,h5⟩
theorem spec_l4Through.ev {n:Nat} {f:BF} (hn:n≤1000) {i j:Nat} (hi:i<n) (hj:j<n):Ev (fun k=>spec_l4Through.f k (tbl n f) (i:Int) (j:Int)) (!dirR f i j n 0 true):=by
 have tl:=tbl_length n f
 have key:=rev_ind (P:=fun x=>∃ b,Ev (fun k=>spec_l4Through.l0 k (tbl n f) (i:Int) (j:Int) (x:Int)) b∧(b=true ↔ ∃ y,x≤y∧y<n∧f i y=true∧f y j=true)) n ?_ ?_ 0 (Nat.zero_le _)
 ·obtain ⟨b,hb,e⟩:=key
  have:b= !dirR f i j n 0 true:=by
   cases hd:dirR f i j n 0 true with
   | true=>
    have h:=((dirR_true f i j n 0 true).1 hd).2
    cases b with
    | false=>rfl
    | true=>
     obtain ⟨y,_,h1,h2,h3⟩:=e.1 rfl
     exact absurd ⟨h2,h3⟩ (h y (by omega) (by omega))
   | false=>
    cases b with
    | true=>rfl
    | false=>
     exfalso
     have:dirR f i j n 0 true=true:=(dirR_true f i j n 0 true).2 ⟨rfl,fun x h1 h2 h3=>by
      have:=e.2 ⟨x,by omega,by omega,h3.1,h3.2⟩
      cases this⟩
     rw [hd] at this;cases this
  rw [←this]
  exact hb
 ·refine ⟨false,ev_stop fun k=>?_,⟨fun h=>(by cases h),fun ⟨y,h1,h2,_⟩=>(by omega)⟩⟩
  simp only [spec_l4Through.l0];rw [if_neg (by rw [tl];omega)]
 ·rintro x hx ⟨b,hb,e⟩
  have r1:=tbl_rowlen (f:=f) hi
  have r2:=tbl_rowlen (f:=f) hx
  have e1:=tbl_at (f:=f) hi hx
  have e2:=tbl_at (f:=f) hx hj
  by_cases c1:f i x=true
  ·by_cases c2:f x j=true
   ·refine ⟨true,ev_stop fun k=>?_,⟨fun _=>⟨x,Nat.le_refl _,hx,c1,c2⟩,fun _=>rfl⟩⟩
    simp only [spec_l4Through.l0];rw [if_pos (by rw [tl];omega),if_pos (by omega),if_pos (by rw [tl];omega),if_pos (by omega),if_pos (by rw [r1];omega),e1,if_pos c1,if_pos (by omega),if_pos (by rw [r2];omega),e2,if_pos c2]
   ·refine ⟨b,ev_go _ (fun k=>?_) hb,e.trans ⟨fun ⟨y,h1,h2,h3,h4⟩=>⟨y,by omega,h2,h3,h4⟩,fun ⟨y,h1,h2,h3,h4⟩=>⟨y,by
     rcases Nat.eq_or_lt_of_le h1 with h|h
     ·subst h;exact absurd h4 c2
     ·omega,h2,h3,h4⟩⟩⟩
    simp only [spec_l4Through.l0];rw [if_pos (by rw [tl];omega),if_pos (by omega),if_pos (by rw [tl];omega),if_pos (by omega),if_pos (by rw [r1];omega),e1,if_pos c1,if_pos (by omega),if_pos (by rw [r2];omega),e2,if_neg c2,wr1 (by omega)]
  ·refine ⟨b,ev_go _ (fun k=>?_) hb,e.trans ⟨fun ⟨y,h1,h2,h3,h4⟩=>⟨y,by omega,h2,h3,h4⟩,fun ⟨y,h1,h2,h3,h4⟩=>⟨y,by
     rcases Nat.eq_or_lt_of_le h1 with h|h
     ·subst h;exact absurd h3 c1
     ·omega,h2,h3,h4⟩⟩⟩
   simp only [spec_l4Through.l0];rw [if_pos (by rw [tl];omega),if_pos (by omega),if_pos (by rw [tl];omega),if_pos (by omega),if_pos (by rw [r1];omega),e1,if_neg c1,wr1 (by omega)]
theorem spec_l7Followers.ev {n:Nat} {f:BF} (hn:n≤1000) {i:Nat} (hi:i<n):Ev (fun k=>spec_l7Followers.f k (tbl n f) (i:Int)) (folI f n i):=by
 have tl:=tbl_length n f
 have r1:=tbl_rowlen (f:=f) hi
 have main:∀ (c j:Nat) (acc:List Int),j + c=n→acc.length + c≤100000→Ev (fun k=>spec_l7Followers.l0 k (tbl n f) (i:Int) acc (j:Int)) (acc++folN f i n c j):=by
  intro c
  induction c with
  | zero=>
   intro j acc hj _
   rw [folN,List.append_nil]
   refine ev_stop fun k=>?_
   simp only [spec_l7Followers.l0];rw [if_neg (by rw [tl];omega)]
  | succ c ih=>
   intro j acc hj hl
   have hjn:j<n:=by omega
   have e1:=tbl_at (f:=f) hi hjn
   rw [folN]
   by_cases c1:f i j=true
   ·refine ev_go (fun k=>(spec_l4Through.f k (tbl n f) (i:Int) (j:Int)).bind fun t251=>(if t251=true then (spec_l7Followers.l0 k (tbl n f) (i:Int) acc ((j + 1:Nat):Int)) else (if acc.length<17592186044416 then (spec_l7Followers.l0 k (tbl n f) (i:Int) (acc++[(j:Int)]) ((j + 1:Nat):Int)) else (none)))) (fun k=>?_) (ev_bind _ (spec_l4Through.ev hn hi hjn) ?_)
    ·simp only [spec_l7Followers.l0];rw [if_pos (by rw [tl];omega),if_pos (by omega),if_pos (by rw [tl];omega),if_pos (by omega),if_pos (by rw [r1];omega),e1,if_pos c1,wr1 (by omega)]
    ·cases hd:dirR f i j n 0 true with
     | true=>
      rw [if_pos ⟨c1,rfl⟩,←List.append_assoc]
      simp only [Bool.not_true,Bool.false_eq_true,if_false,if_pos (show acc.length<17592186044416 by omega)]
      exact ih (j + 1) _ (by omega) (by simp;omega)
     | false=>
      rw [if_neg (by simp),List.nil_append]
      simp only [Bool.not_false,if_true]
      exact ih (j + 1) _ (by omega) (by omega)
   ·rw [if_neg (fun h=>c1 h.1),List.nil_append]
    refine ev_go _ (fun k=>?_) (ih (j + 1) acc (by omega) (by omega))
    simp only [spec_l7Followers.l0];rw [if_pos (by rw [tl];omega),if_pos (by omega),if_pos (by rw [tl];omega),if_pos (by omega),if_pos (by rw [r1];omega),e1,if_neg c1,wr1 (by omega)]
 have:=main n 0 [] (by omega) (by simp;omega)
 simpa [folI,spec_l7Followers.f] using this
/-- rows that pairs are appended to -/
def addP:List (List Int)→List A2→List (List Int)
 | R,[]=>R
 | R,p::L=>addP (R.set p.f0.toNat (rd_L6 R p.f0++[p.f1])) L
theorem addP_len:∀ (L:List A2) (R:List (List Int)),(addP R L).length=R.length
 | [],_=>rfl
 | p::L,R=>by rw [addP,addP_len L,List.length_set]
theorem rdLI_set {R:List (List Int)} {i j:Nat} (hi:i<R.length) (hj:j<R.length) (v:List Int):rd_L6 (R.set i v) (j:Int)=if i=j then v else rd_L6 R (j:Int):=by
 have h1:j<(R.set i v).length:=by rw [List.length_set];exact hj
 simp only [rd_L6,Int.toNat_natCast,List.getD_eq_getElem?_getD,List.getElem?_eq_getElem h1,List.getElem?_eq_getElem hj,Option.getD_some,List.getElem_set]
theorem addP_row:∀ (L:List A2) (R:List (List Int)) (i:Nat),i<R.length→(∀ p ∈ L,0≤p.f0∧p.f0<(R.length:Int))→rd_L6 (addP R L) (i:Int)=rd_L6 R (i:Int)++(L.filter fun p=>decide (p.f0=(i:Int))).map fun p=>p.f1
 | [],R,i,_,_=>by simp [addP]
 | p::L,R,i,hi,h=>by
  have hp:=h p List.mem_cons_self
  rw [addP,addP_row L _ i (by rw [List.length_set];exact hi) (fun q hq=>by rw [List.length_set];exact h q (List.mem_cons_of_mem _ hq)),rdLI_set (by omega) hi]
  by_cases e:p.f0=(i:Int)
  ·rw [if_pos (by omega),List.filter_cons_of_pos (by simpa using e),List.map_cons,e,List.append_assoc]
   rfl
  ·rw [if_neg (by omega),List.filter_cons_of_neg (by simpa using e)]
theorem pjs_row (f:BF) (i n:Nat):∀ (c j:Nat),((pjs f i c j).filter fun p=>dirR f p.f0.toNat p.f1.toNat n 0 true).map (fun p=>p.f1)=folN f i n c j
 | 0,_=>rfl
 | c + 1,j=>by
  rw [pjs,folN,List.filter_append,List.map_append,pjs_row f i n c (j + 1)]
  congr 1
  by_cases c1:f i j=true
  ·rw [if_pos c1]
   by_cases c2:dirR f i j n 0 true=true
   ·rw [if_pos ⟨c1,c2⟩];simp [c2]
   ·rw [if_neg (fun h=>c2 h.2)];simp [c2]
  ·rw [if_neg c1,if_neg (fun h=>c1 h.1)];rfl
theorem pjs_f0 (f:BF) (i:Nat):∀ (c j:Nat),∀ p ∈ pjs f i c j,p.f0=(i:Int):=fun c j p hp=>by
 obtain ⟨m,_,_,_,e⟩:=(pjs_mem f i p c j).1 hp
 rw [e]
theorem pis_row (f:BF) (n i:Nat):∀ (c s:Nat),(((pis f n c s).filter fun p=>dirR f p.f0.toNat p.f1.toNat n 0 true).filter fun p=>decide (p.f0=(i:Int))).map (fun p=>p.f1)=if s≤i∧i<s + c then folI f n i else []
 | 0,s=>by rw [if_neg (by omega)];rfl
 | c + 1,s=>by
  rw [pis,List.filter_append,List.filter_append,List.map_append,pis_row f n i c (s + 1)]
  by_cases e:s=i
  ·subst e
   rw [if_neg (by omega),if_pos (by omega),List.append_nil,List.filter_eq_self.2 (fun p hp=>by
    have:=pjs_f0 f s n 0 p (List.mem_filter.1 hp).1
    simpa using this),pjs_row]
   rfl
  ·have:((pjs f s n 0).filter fun p=>dirR f p.f0.toNat p.f1.toNat n 0 true).filter (fun p=>decide (p.f0=(i:Int)))=[]:=by
    rw [List.filter_eq_nil_iff]
    intro p hp
    have:=pjs_f0 f s n 0 p (List.mem_filter.1 hp).1
    simp;omega
   rw [this,List.map_nil,List.nil_append]
   by_cases c1:s + 1≤i∧i<s + 1 + c
   ·rw [if_pos c1,if_pos (by omega)]
   ·rw [if_neg c1,if_neg (by omega)]
theorem fol_rows (f:BF) (n:Nat) {i:Nat} (hi:i<n):rd_L6 (addP (List.replicate n []) (redL f n (pis f n n 0))) (i:Int)=folI f n i:=by
 rw [addP_row _ _ i (by simpa using hi) (fun p hp=>by
  obtain ⟨a,b,h1,_,_,_,e⟩:=redL_mem.1 hp
  subst e;simp;omega)]
 have h:=pis_row f n i n 0
 rw [if_pos (by omega)] at h
 unfold redL
 rw [h]
 simp [rd_L6,hi]

def labOf (L l:List Int):List Int:=l.map fun j=>rd L j
def byLab:Nat→List Int→List Int
 | 0,_=>[]
 | c + 1,l=>(l.filter fun x=>decide (x=((c + 1:Nat):Int)))++byLab c l
theorem filt_split (p q r:Int→Bool) (h:∀ x,r x=(p x || q x)) (hd:∀ x,p x=true→q x=false):∀ l:List Int,(l.filter p++l.filter q).Perm (l.filter r)
 | []=>List.Perm.refl _
 | x::l=>by
  have ih:=filt_split p q r h hd l
  cases hp:p x with
  | true=>
   have hq:=hd x hp
   have hr:r x=true:=by rw [h,hp];rfl
   rw [List.filter_cons_of_pos hp,List.filter_cons_of_neg (by rw [hq];simp),List.filter_cons_of_pos hr,List.cons_append]
   exact ih.cons x
  | false=>
   rw [List.filter_cons_of_neg (by rw [hp];simp)]
   cases hq:q x with
   | true=>
    have hr:r x=true:=by rw [h,hq];simp
    rw [List.filter_cons_of_pos hq,List.filter_cons_of_pos hr]
    exact List.perm_middle.trans (ih.cons x)
   | false=>
    have hr:r x=false:=by rw [h,hp,hq];rfl
    rw [List.filter_cons_of_neg (by rw [hq];simp),List.filter_cons_of_neg (by rw [hr];simp)]
    exact ih
theorem byLab_perm:∀ (c:Nat) (l:List Int),(byLab c l).Perm (l.filter fun x=>decide (0<x∧x≤(c:Int)))
 | 0,l=>by
  rw [byLab,List.filter_eq_nil_iff.2 (fun x _=>by rw [decide_eq_true_eq];omega)]
 | c + 1,l=>by
  rw [byLab]
  refine ((byLab_perm c l).append_left _).trans (filt_split _ _ _ (fun x=>?_) (fun x h=>?_) l)
  ·rw [←Bool.decide_or,decide_eq_decide];omega
  ·rw [decide_eq_true_eq] at h;rw [decide_eq_false_iff_not];omega
theorem byLab_mem {c:Nat} {l:List Int} {x:Int} (h:x ∈ byLab c l):x ∈ l∧0<x∧x≤(c:Int):=by
 have:=(byLab_perm c l).mem_iff.1 h
 rw [List.mem_filter,decide_eq_true_eq] at this
 exact this
theorem byLab_desc:∀ (c:Nat) (l:List Int),(byLab c l).Pairwise fun a b=>b≤a
 | 0,_=>List.Pairwise.nil
 | c + 1,l=>by
  rw [byLab,List.pairwise_append]
  refine ⟨List.Pairwise.imp_of_mem ?_ (List.pairwise_of_forall (R:=fun _ _=>True) (fun _ _=>trivial)),byLab_desc c l,fun a ha b hb=>?_⟩
  ·intro a b ha hb _
   rw [List.mem_filter,decide_eq_true_eq] at ha hb
   omega
  ·have:=(byLab_mem hb).2.2
   rw [List.mem_filter,decide_eq_true_eq] at ha
   omega
theorem byLab_len {c:Nat} {l:List Int} (h:∀ x ∈ l,0≤x∧x≤(c:Int)):(byLab c l).length≤l.length∧((byLab c l).length=l.length ↔ ∀ x ∈ l,0<x):=by
 rw [(byLab_perm c l).length_eq]
 refine ⟨List.length_filter_le _ _,?_⟩
 rw [List.length_filter_eq_length_iff]
 constructor
 ·intro h1 x hx
  have:=h1 x hx
  rw [decide_eq_true_eq] at this;exact this.1
 ·intro h1 x hx
  rw [decide_eq_true_eq]
  exact ⟨h1 x hx,(h x hx).2⟩
theorem downLt_pre (P:Int→Prop):Pre downLt P:=by
 have:=pre_key (fun a=> - a) P
 have e:downLt=fun a b=>decide (- a < - b):=by funext a b;unfold downLt;rw [decide_eq_decide];omega
 rw [e];exact this
theorem byLab_sorted {c:Nat} {l:List Int} (h:∀ x ∈ l,0<x∧x≤(c:Int)):insAll downLt l []=byLab c l:=by
 have h1:(insAll downLt l []).Pairwise fun a b=>b≤a:=(insAll_sorted (downLt_pre (fun _=>True)) l [] (fun _ _=>trivial) (fun _ _=>trivial) List.Pairwise.nil).imp fun {a b} hab=>by
  unfold downLt at hab;rw [decide_eq_false_iff_not] at hab;omega
 have hp:=insAll_perm downLt l []
 rw [List.append_nil] at hp
 have hb:=byLab_perm c l
 rw [List.filter_eq_self.2 (fun x hx=>by simpa using h x hx)] at hb
 exact List.Perm.eq_of_pairwise (fun a b _ _ h h'=>by omega) h1 (byLab_desc c l) (hp.trans hb.symm)
theorem labOf_cons {L l:List Int} {i:Nat} (hi:i<l.length):labOf L (l.drop i)=rd L l[i]::labOf L (l.drop (i + 1)):=by
 rw [drop_cons hi];rfl
theorem told_l1 {L l:List Int} (hin:∀ x ∈ l,0≤x∧x<(L.length:Int)) (hl:l.length≤1000) (v:Int) (R:List Int × Bool):∀ i,i≤l.length→∀ acc:List Int,acc.length + (l.length - i)≤1000000→Ev (fun k=>spec_l7Told.l0 k L l (acc++(labOf L (l.drop i)).filter fun x=>decide (x=v)) (wrap64 (v - 1))) R→Ev (fun k=>spec_l7Told.l1 k L l acc v (i:Int)) R:=by
 refine rev_ind l.length (fun acc _ h=>?_) (fun i hi ih acc hlen h=>?_)
 ·rw [List.drop_length] at h
  simp only [labOf,List.map_nil,List.filter_nil,List.append_nil] at h
  refine ev_go _ (fun k=>?_) h
  simp only [spec_l7Told.l1];rw [if_neg (by omega)]
 ·have hx:=hin _ (List.getElem_mem hi)
  rw [labOf_cons hi] at h
  by_cases c:rd L l[i]=v
  ·rw [List.filter_cons_of_pos (by simpa using c),c,←List.singleton_append,←List.append_assoc] at h
   refine ev_go _ (fun k=>?_) (ih (acc++[v]) (by simp;omega) h)
   simp only [spec_l7Told.l1];rw [rd_nat hi,if_pos (by omega),if_pos (by omega),if_pos hx.1,if_pos hx.2,if_pos c,if_pos (by omega),wr1 (by omega)]
  ·rw [List.filter_cons_of_neg (by simpa using c)] at h
   refine ev_go _ (fun k=>?_) (ih acc (by omega) h)
   simp only [spec_l7Told.l1];rw [rd_nat hi,if_pos (by omega),if_pos (by omega),if_pos hx.1,if_pos hx.2,if_neg c,wr1 (by omega)]
theorem told_l0 {L l:List Int} (hin:∀ x ∈ l,0≤x∧x<(L.length:Int)) (hl:l.length≤1000):∀ (c:Nat) (acc:List Int),c≤100→acc.length + c * 1000≤200000→Ev (fun k=>spec_l7Told.l0 k L l acc (c:Int)) (acc++byLab c (labOf L l),(((acc++byLab c (labOf L l)).length:Int) == (l.length:Int)))
 | 0,acc,_,_=>by
  rw [byLab,List.append_nil]
  refine ev_stop fun k=>?_
  simp only [spec_l7Told.l0];rw [if_neg (by omega)]
 | c + 1,acc,hc,hacc=>by
  have hf:((labOf L l).filter fun x=>decide (x=((c + 1:Nat):Int))).length≤1000:=by
   have:=List.length_filter_le (fun x=>decide (x=((c + 1:Nat):Int))) (labOf L l)
   have h2:(labOf L l).length=l.length:=by simp [labOf]
   omega
  have ih:=told_l0 hin hl c (acc++(labOf L l).filter fun x=>decide (x=((c + 1:Nat):Int))) (by omega) (by rw [List.length_append];omega)
  rw [List.append_assoc,←byLab] at ih
  have h1:=told_l1 hin hl ((c + 1:Nat):Int) _ 0 (Nat.zero_le _) acc (by omega) (by
   rw [List.drop_zero,wr (by omega) (by omega),show ((c + 1:Nat):Int) - 1=(c:Int) by omega]
   exact ih)
  refine ev_go _ (fun k=>?_) h1
  simp only [spec_l7Told.l0];rw [if_pos (by omega)];rfl
theorem spec_l7Told.ev {n:Nat} {f:BF} (hn:n≤8) {i:Nat} (hi:i<n) {L:List Int} (hL:L.length=n):Ev (fun k=>spec_l7Told.f k (tbl n f) L (i:Int)) (byLab n (labOf L (folI f n i)),(((byLab n (labOf L (folI f n i))).length:Int) == ((folI f n i).length:Int))):=by
 unfold spec_l7Told.f
 refine ev_bind _ (spec_l7Followers.ev (by omega) hi) ?_
 have hl:=folI_len f n i
 have:=told_l0 (L:=L) (l:=folI f n i) (fun x hx=>by
  obtain ⟨m,h1,_,h3⟩:=folI_in f n i x hx
  omega) (by omega) n [] (by omega) (by simp;omega)
 rw [List.nil_append] at this
 rw [hL]
 exact this

def KnownB (L:List Int) (f:BF) (n i:Nat):Prop:=∀ x ∈ labOf L (folI f n i),0<x
theorem lab_in {L:List Int} {f:BF} {n:Nat} (hv:∀ i:Nat,i<n→0≤rd L (i:Int)∧rd L (i:Int)≤(n:Int)) (i:Nat):∀ x ∈ labOf L (folI f n i),0≤x∧x≤(n:Int):=fun x hx=>by
 obtain ⟨y,hy,rfl⟩:=List.mem_map.1 hx
 obtain ⟨m,h1,_,h3⟩:=folI_in f n i y hy
 subst h3
 exact hv m h1
theorem impl_l3 {n:Nat} {F:List (List Int)} {L l:List Int} (hin:∀ x ∈ l,0≤x∧x<(L.length:Int)) (hl:l.length≤1000) (v best i:Int) (least:List Int) (R:List Int) (hB:L.length=n):∀ x,x≤l.length→∀ (acc:List Int) (kn:Bool),acc.length + (l.length - x)≤100000→Ev (fun k=>(impl_sortedDown.f k (acc++labOf L (l.drop x))).bind fun t405=>(if (kn && (labOf L (l.drop x)).all fun y=>decide (0<y))=true then (if best<0 then (impl_labelsOf.l2 k (n:Int) F L v i t405 (n:Int) (wrap64 (i + 1))) else ((impl_compareLists.f k t405 least).bind fun t408=>(if t408<0 then (impl_labelsOf.l2 k (n:Int) F L v i t405 (n:Int) (wrap64 (i + 1))) else (impl_labelsOf.l2 k (n:Int) F L v best least (n:Int) (wrap64 (i + 1)))))) else (impl_labelsOf.l2 k (n:Int) F L v best least (n:Int) (wrap64 (i + 1))))) R→Ev (fun k=>impl_labelsOf.l3 k (n:Int) F L v best least i acc kn (n:Int) i l (l.length:Int) (x:Int)) R:=by
 refine rev_ind l.length (fun acc kn _ h=>?_) (fun x hx ih acc kn hlen h=>?_)
 ·rw [List.drop_length] at h
  simp only [labOf,List.map_nil,List.append_nil,List.all_nil,Bool.and_true] at h
  refine ev_go _ (fun k=>?_) h
  simp only [impl_labelsOf.l3];rw [if_neg (by omega)]
 ·have hy:=hin _ (List.getElem_mem hx)
  rw [labOf_cons hx,List.all_cons,←List.singleton_append,←List.append_assoc,←Bool.and_assoc] at h
  have:=ih (acc++[rd L l[x]]) (kn && decide (0<rd L l[x])) (by simp;omega) h
  refine ev_go _ (fun k=>?_) this
  simp only [impl_labelsOf.l3]
  rw [rd_nat hx,if_pos (by omega),if_pos (by omega),if_pos (by omega)]
  cases kn with
  | true=>rw [if_pos rfl,if_pos hy.1,if_pos hy.2,if_pos (by omega),wr1 (by omega)];rfl
  | false=>rw [if_neg (by simp),if_pos hy.1,if_pos hy.2,if_pos (by omega),wr1 (by omega)];rfl
theorem pick_both {n:Nat} {f:BF} (hn:n≤8) {F:List (List Int)} (hF:F.length=n) (hFr:∀ i:Nat,i<n→rd_L6 F (i:Int)=folI f n i) {L:List Int} (hL:L.length=n) (hv:∀ i:Nat,i<n→0≤rd L (i:Int)∧rd L (i:Int)≤(n:Int)) (v:Int) (Q:List Int→Prop)
  (cont:∀ b:Nat,b<n→rd L (b:Int)=0→∃ r,Ev (fun k=>spec_l7Labels.l0 k (n:Int) (L.set b v) (tbl n f) (wrap64 (v + 1))) r∧Ev (fun k=>impl_labelsOf.l1 k (n:Int) F (L.set b v) (wrap64 (v + 1))) r∧Q r) :
  ∀ i,i≤n→∀ (best:Int) (least:List Int),(best= -1∨∃ b:Nat,b<n∧best=(b:Int)∧rd L (b:Int)=0)→(least.length≤1000∧∀ x ∈ least,0≤x∧x≤1000000)→(best= -1→∃ j,i≤j∧j<n∧rd L (j:Int)=0∧KnownB L f n j)→
   ∃ r,Ev (fun k=>spec_l7Labels.l1 k (n:Int) L (tbl n f) v best least (i:Int)) r∧Ev (fun k=>impl_labelsOf.l2 k (n:Int) F L v best least (n:Int) (i:Int)) r∧Q r:=by
 refine rev_ind n (fun best least hb _ hex=>?_) (fun i hi ih best least hb hleast hex=>?_)
 ·rcases hb with hb | ⟨b,hb1,hb2,hb3⟩
  ·obtain ⟨j,h1,h2,_⟩:=hex hb;omega
  ·obtain ⟨r,h1,h2,h3⟩:=cont b hb1 hb3
   subst hb2
   refine ⟨r,ev_go _ (fun k=>?_) h1,ev_go _ (fun k=>?_) h2,h3⟩
   ·simp only [spec_l7Labels.l1];rw [if_neg (by omega),if_pos (by omega),if_pos (by omega),Int.toNat_natCast]
   ·simp only [impl_labelsOf.l2];rw [if_neg (by omega),if_pos (by omega),if_pos (by omega),Int.toNat_natCast]
 ·have told:=spec_l7Told.ev (f:=f) hn hi hL
  have hvi:=hv i hi
  have hin:=lab_in (f:=f) hv i
  have hlf:=folI_len f n i
  have hll:(labOf L (folI f n i)).length=(folI f n i).length:=by simp [labOf]
  obtain ⟨hbl,hbk⟩:=byLab_len hin
  have hfin:∀ x ∈ folI f n i,0≤x∧x<(L.length:Int):=fun x hx=>by
   obtain ⟨m,h1,_,h3⟩:=folI_in f n i x hx
   omega
  have sgo:∀ r,Ev (fun k=>if rd L (i:Int)=0 then (if (((byLab n (labOf L (folI f n i))).length:Int) == ((folI f n i).length:Int))=true then (if best<0 then (spec_l7Labels.l1 k (n:Int) L (tbl n f) v (i:Int) (byLab n (labOf L (folI f n i))) ((i + 1:Nat):Int)) else ((spec_l5Less.f k (byLab n (labOf L (folI f n i))) least).bind fun t285=>(if t285=true then (spec_l7Labels.l1 k (n:Int) L (tbl n f) v (i:Int) (byLab n (labOf L (folI f n i))) ((i + 1:Nat):Int)) else (spec_l7Labels.l1 k (n:Int) L (tbl n f) v best least ((i + 1:Nat):Int))))) else (spec_l7Labels.l1 k (n:Int) L (tbl n f) v best least ((i + 1:Nat):Int))) else (spec_l7Labels.l1 k (n:Int) L (tbl n f) v best least ((i + 1:Nat):Int))) r→Ev (fun k=>spec_l7Labels.l1 k (n:Int) L (tbl n f) v best least (i:Int)) r:=fun r h=>by
   refine ev_go (fun k=>(spec_l7Told.f k (tbl n f) L (i:Int)).bind fun bt280=>if rd L (i:Int)=0 then (if bt280.2=true then (if best<0 then (spec_l7Labels.l1 k (n:Int) L (tbl n f) v (i:Int) bt280.1 ((i + 1:Nat):Int)) else ((spec_l5Less.f k bt280.1 least).bind fun t285=>(if t285=true then (spec_l7Labels.l1 k (n:Int) L (tbl n f) v (i:Int) bt280.1 ((i + 1:Nat):Int)) else (spec_l7Labels.l1 k (n:Int) L (tbl n f) v best least ((i + 1:Nat):Int))))) else (spec_l7Labels.l1 k (n:Int) L (tbl n f) v best least ((i + 1:Nat):Int))) else (spec_l7Labels.l1 k (n:Int) L (tbl n f) v best least ((i + 1:Nat):Int))) (fun k=>?_) (ev_bind _ told h)
   simp only [spec_l7Labels.l1]
   rw [if_pos (by omega),wr1 (by omega)]
   simp only [if_pos (show 0≤(i:Int) by omega),if_pos (show (i:Int)<(L.length:Int) by omega)]
  have igo:∀ r,rd L (i:Int)=0→Ev (fun k=>(impl_sortedDown.f k (labOf L (folI f n i))).bind fun t405=>(if ((labOf L (folI f n i)).all fun y=>decide (0<y))=true then (if best<0 then (impl_labelsOf.l2 k (n:Int) F L v (i:Int) t405 (n:Int) ((i + 1:Nat):Int)) else ((impl_compareLists.f k t405 least).bind fun t408=>(if t408<0 then (impl_labelsOf.l2 k (n:Int) F L v (i:Int) t405 (n:Int) ((i + 1:Nat):Int)) else (impl_labelsOf.l2 k (n:Int) F L v best least (n:Int) ((i + 1:Nat):Int))))) else (impl_labelsOf.l2 k (n:Int) F L v best least (n:Int) ((i + 1:Nat):Int)))) r→Ev (fun k=>impl_labelsOf.l2 k (n:Int) F L v best least (n:Int) (i:Int)) r:=fun r h0 h=>by
   have h3:=impl_l3 (F:=F) hfin (by omega) v best (i:Int) least r hL 0 (Nat.zero_le _) [] true (by simp;omega) (by
    rw [List.drop_zero,List.nil_append,Bool.true_and,wr1 (by omega)]
    exact h)
   refine ev_go _ (fun k=>?_) h3
   simp only [impl_labelsOf.l2]
   rw [if_pos (by omega),if_pos (by omega),if_pos (by omega),if_neg (by omega),if_pos (by omega),hFr i hi]
   rfl
  by_cases c0:rd L (i:Int)=0
  ·have hsort:∀ {r:List Int} {g:Nat→List Int→Option (List Int)},Ev (fun k=>g k (insAll downLt (labOf L (folI f n i)) [])) r→Ev (fun k=>(impl_sortedDown.f k (labOf L (folI f n i))).bind (g k)) r:=fun {r g} h=>by
    refine ev_bind _ ?_ h
    unfold impl_sortedDown.f
    rw [if_pos (by omega)]
    exact Ev.now _
   by_cases ck:KnownB L f n i
   ·have hall:((labOf L (folI f n i)).all fun y=>decide (0<y))=true:=by
     rw [List.all_eq_true];intro y hy;exact decide_eq_true (ck y hy)
    have hlen:(byLab n (labOf L (folI f n i))).length=(labOf L (folI f n i)).length:=hbk.2 ck
    have hok:(((byLab n (labOf L (folI f n i))).length:Int) == ((folI f n i).length:Int))=true:=by
     rw [hlen,hll];simp
    have hsame:=byLab_sorted (c:=n) (l:=labOf L (folI f n i)) (fun x hx=>⟨ck x hx,(hin x hx).2⟩)
    have hbin:(byLab n (labOf L (folI f n i))).length≤1000∧∀ x ∈ byLab n (labOf L (folI f n i)),0≤x∧x≤1000000:=⟨by omega,fun x hx=>by have:=byLab_mem hx;omega⟩
    by_cases cb:best<0
    ·obtain ⟨r,h1,h2,h3⟩:=ih (i:Int) (byLab n (labOf L (folI f n i))) (.inr ⟨i,hi,rfl,c0⟩) hbin (fun h=>by omega)
     refine ⟨r,sgo r ?_,igo r c0 (hsort ?_),h3⟩
     ·simp only [if_pos c0,if_pos hok,if_pos cb];exact h1
     ·rw [hsame];simp only [if_pos hall,if_pos cb];exact h2
    ·obtain ⟨c,d,e1,e2,e3⟩:=less_both (byLab n (labOf L (folI f n i))) least (by omega) (by omega) hbin.2 hleast.2
     by_cases cl:c<0
     ·obtain ⟨r,h1,h2,h3⟩:=ih (i:Int) (byLab n (labOf L (folI f n i))) (.inr ⟨i,hi,rfl,c0⟩) hbin (fun h=>by omega)
      refine ⟨r,sgo r ?_,igo r c0 (hsort ?_),h3⟩
      ·simp only [if_pos c0,if_pos hok,if_neg cb]
       refine ev_bind _ e2 ?_
       simp only [if_pos (e3.1 cl)];exact h1
      ·rw [hsame];simp only [if_pos hall,if_neg cb]
       refine ev_bind _ e1 ?_
       simp only [if_pos cl];exact h2
     ·obtain ⟨r,h1,h2,h3⟩:=ih best least hb hleast (fun h=>by omega)
      refine ⟨r,sgo r ?_,igo r c0 (hsort ?_),h3⟩
      ·simp only [if_pos c0,if_pos hok,if_neg cb]
       refine ev_bind _ e2 ?_
       simp only [if_neg (fun h=>cl (e3.2 h))];exact h1
      ·rw [hsame];simp only [if_pos hall,if_neg cb]
       refine ev_bind _ e1 ?_
       simp only [if_neg cl];exact h2
   ·have hall:¬ ((labOf L (folI f n i)).all fun y=>decide (0<y))=true:=by
     rw [List.all_eq_true];intro h;exact ck fun x hx=>of_decide_eq_true (h x hx)
    have hok:¬ (((byLab n (labOf L (folI f n i))).length:Int) == ((folI f n i).length:Int))=true:=by
     intro h
     have h:(((byLab n (labOf L (folI f n i))).length:Int))=((folI f n i).length:Int):=by simpa using h
     exact ck (hbk.1 (by omega))
    obtain ⟨r,h1,h2,h3⟩:=ih best least hb hleast (fun h=>by
     obtain ⟨j,j1,j2,j3,j4⟩:=hex h
     refine ⟨j,?_,j2,j3,j4⟩
     rcases Nat.eq_or_lt_of_le j1 with e|e
     ·subst e;exact absurd j4 ck
     ·exact e)
    refine ⟨r,sgo r ?_,igo r c0 (hsort ?_),h3⟩
    ·simp only [if_pos c0,if_neg hok];exact h1
    ·simp only [if_neg hall];exact h2
  ·obtain ⟨r,h1,h2,h3⟩:=ih best least hb hleast (fun h=>by
    obtain ⟨j,j1,j2,j3,j4⟩:=hex h
    refine ⟨j,?_,j2,j3,j4⟩
    rcases Nat.eq_or_lt_of_le j1 with e|e
    ·subst e;exact absurd j3 c0
    ·exact e)
   refine ⟨r,sgo r ?_,ev_go _ (fun k=>?_) h2,h3⟩
   ·simp only [if_neg c0];exact h1
   ·simp only [impl_labelsOf.l2];rw [if_pos (by omega),if_pos (by omega),if_pos (by omega),if_pos (by omega),wr1 (by omega)]
theorem ready_ex {n:Nat} {f:BF} (hp:PreF n f) {L:List Int} (hv:∀ i:Nat,i<n→0≤rd L (i:Int)∧rd L (i:Int)≤(n:Int)):∀ (m i:Nat),cntF n f i≤m→i<n→rd L (i:Int)=0→∃ j,j<n∧rd L (j:Int)=0∧KnownB L f n j:=by
 intro m
 induction m with
 | zero=>
  intro i hm hi h0
  refine ⟨i,hi,h0,fun x hx=>?_⟩
  obtain ⟨y,hy,rfl⟩:=List.mem_map.1 hx
  obtain ⟨q,h1,h2,rfl⟩:=folI_in f n i y hy
  have:=cnt_lt hp hi h1 h2
  omega
 | succ m ih=>
  intro i hm hi h0
  by_cases hk:KnownB L f n i
  ·exact ⟨i,hi,h0,hk⟩
  ·obtain ⟨q,hq1,hq2,hq3⟩:∃ q,q<n∧f i q=true∧rd L (q:Int)=0:=Classical.byContradiction fun hn=>hk fun x hx=>by
    obtain ⟨y,hy,rfl⟩:=List.mem_map.1 hx
    obtain ⟨q,h1,h2,rfl⟩:=folI_in f n i y hy
    have:=hv q h1
    have h3:rd L (q:Int)≠0:=fun e=>hn ⟨q,h1,h2,e⟩
    omega
   have:=cnt_lt hp hi hq1 hq2
   exact ih q (by omega) hq1 hq3
def zerosF (L:List Int):Nat:=L.countP fun x=>decide (x=0)
theorem zeros_set {L:List Int} {b:Nat} (hb:b<L.length) (h0:L[b]=0) {v:Int} (hv:v≠0):zerosF (L.set b v) + 1=zerosF L:=by
 unfold zerosF
 have e1:L=L.take b++L[b]::L.drop (b + 1):=by
  rw [←List.drop_eq_getElem_cons hb,List.take_append_drop]
 have e2:L.set b v=L.take b++v::L.drop (b + 1):=by
  rw [List.set_eq_take_append_cons_drop,if_pos hb]
 rw [e2]
 conv=>rhs;rw [e1]
 rw [List.countP_append,List.countP_append,List.countP_cons_of_neg (by simpa using hv),List.countP_cons_of_pos (by simpa using h0)]
 omega
theorem rd_set' {l:List Int} {i j:Nat} (hi:i<l.length) (hj:j<l.length) (v:Int):rd (l.set i v) (j:Int)=if i=j then v else rd l (j:Int):=by
 rw [rd_nat (by rw [List.length_set];exact hj),rd_nat hj,List.getElem_set]
theorem labels_both {n:Nat} {f:BF} (hn:n≤8) (hp:PreF n f) {F:List (List Int)} (hF:F.length=n) (hFr:∀ i:Nat,i<n→rd_L6 F (i:Int)=folI f n i):∀ (c:Nat) (v:Nat) (L:List Int),v + c=n + 1→1≤v→L.length=n→(∀ i:Nat,i<n→0≤rd L (i:Int)∧rd L (i:Int)≤(n:Int))→zerosF L=c→∃ r,Ev (fun k=>spec_l7Labels.l0 k (n:Int) L (tbl n f) (v:Int)) r∧Ev (fun k=>impl_labelsOf.l1 k (n:Int) F L (v:Int)) r∧r.length=n
 | 0,v,L,hc,_,hL,_,_=>by
  refine ⟨L,ev_stop fun k=>?_,ev_stop fun k=>?_,hL⟩
  ·simp only [spec_l7Labels.l0];rw [if_neg (by omega)]
  ·simp only [impl_labelsOf.l1];rw [if_neg (by omega)]
 | c + 1,v,L,hc,hv1,hL,hv,hz=>by
  have hex:∃ i:Nat,i<n∧rd L (i:Int)=0:=by
   have:0<L.countP fun x=>decide (x=0):=by unfold zerosF at hz;omega
   obtain ⟨x,hx,h0⟩:=List.countP_pos_iff.1 this
   obtain ⟨i,hi,rfl⟩:=List.getElem_of_mem hx
   exact ⟨i,by omega,by rw [rd_nat hi];simpa using h0⟩
  obtain ⟨i,hi,h0⟩:=hex
  obtain ⟨j,hj,hj0,hjk⟩:=ready_ex hp hv (cntF n f i) i (Nat.le_refl _) hi h0
  obtain ⟨r,h1,h2,h3⟩:=pick_both hn hF hFr hL hv (v:Int) (fun r=>r.length=n) (fun b hb hb0=>by
   have hbL:b<L.length:=by omega
   have hb00:L[b]=0:=by rw [←rd_nat hbL];exact hb0
   have hzz:=zeros_set hbL hb00 (v:=(v:Int)) (by omega)
   rw [wr1 (by omega)]
   exact labels_both hn hp hF hFr c (v + 1) (L.set b (v:Int)) (by omega) (by omega) (by rw [List.length_set];exact hL) (fun i hi=>by
    rw [rd_set' hbL (by omega)]
    split
    ·omega
    ·exact hv i hi) (by omega)) 0 (Nat.zero_le _) (-1) [] (.inl rfl) (by simp) (fun _=>⟨j,Nat.zero_le _,hj,hj0,hjk⟩)
  refine ⟨r,ev_go _ (fun k=>?_) h1,ev_go _ (fun k=>?_) h2,h3⟩
  ·simp only [spec_l7Labels.l0];rw [if_pos (by omega)];rfl
  ·simp only [impl_labelsOf.l1];rw [if_pos (by omega),hL];rfl

theorem spec_l7Units.ev (n:Nat) (hn:n≤1000):Ev (fun k=>spec_l7Units.f k (n:Int)) (List.replicate n oneJ):=by
 have main:∀ (c i:Nat) (acc:List J),i + c=n→acc.length=i→Ev (fun k=>spec_l7Units.l0 k (n:Int) acc (i:Int)) (acc++List.replicate c oneJ):=by
  intro c
  induction c with
  | zero=>
   intro i acc hi _
   rw [List.replicate_zero,List.append_nil]
   refine ev_stop fun k=>?_
   simp only [spec_l7Units.l0];rw [if_neg (by omega)]
  | succ c ih=>
   intro i acc hi hl
   rw [List.replicate_succ,←List.singleton_append,←List.append_assoc]
   refine ev_go _ (fun k=>?_) (ih (i + 1) (acc++[oneJ]) (by omega) (by simp;omega))
   simp only [spec_l7Units.l0];rw [if_pos (by omega),if_pos (by omega),wr1 (by omega)];rfl
 have:=main n 0 [] (by omega) rfl
 unfold spec_l7Units.f
 simpa using this
theorem impl_labels_l0 {n:Nat} (hn:n≤8) {L:List A2} (hin:∀ p ∈ L,0≤p.f0∧p.f0<(n:Int)) (hlen:L.length≤100000) (R:List Int):∀ i,i≤L.length→∀ F:List (List Int),F.length=n→(∀ y ∈ F,y.length≤i)→Ev (fun k=>impl_labelsOf.l1 k (n:Int) (addP F (L.drop i)) (List.replicate n 0) 1) R→Ev (fun k=>impl_labelsOf.l0 k (n:Int) F L (L.length:Int) (i:Int)) R:=by
 refine rev_ind L.length (fun F hF _ h=>?_) (fun i hi ih F hF hrow h=>?_)
 ·rw [List.drop_length,addP] at h
  refine ev_go _ (fun k=>?_) h
  simp only [impl_labelsOf.l0];rw [if_neg (by omega),if_pos (by omega),if_pos (by omega),Int.toNat_natCast]
 ·have hp:=hin _ (List.getElem_mem hi)
  have hr:rd_T72 L (i:Int)=L[i]:=rdA2 hi
  rw [drop_cons hi,addP] at h
  have hrl:(rd_L6 F L[i].f0).length≤i:=by
   have h1:L[i].f0.toNat<F.length:=by omega
   have:rd_L6 F L[i].f0=F[L[i].f0.toNat]:=by simp [rd_L6,h1]
   rw [this];exact hrow _ (List.getElem_mem h1)
  refine ev_go _ (fun k=>?_) (ih (F.set L[i].f0.toNat (rd_L6 F L[i].f0++[L[i].f1])) (by rw [List.length_set];exact hF) (fun y hy=>?_) h)
  ·simp only [impl_labelsOf.l0];rw [hr,if_pos (by omega),if_pos (by omega),if_pos (by omega),if_pos hp.1,if_pos (by omega),if_pos (by omega),wr1 (by omega)]
  ·rcases List.mem_or_eq_of_mem_set hy with hy|rfl
   ·have:=hrow y hy;omega
   ·simp;omega
theorem core_LabelPlan (n:Int) (E:List A2) (hw:(Lit.int .i64 n).wf=true) (hE:E.length≤1048576):∃ r b,Ev (fun k=>spec_LabelPlan.f k n E) (r,b)∧Ev (fun k=>impl_LabelPlan.f k n E) (r,b)∧r.length≤1048576:=by
 unfold spec_LabelPlan.f impl_LabelPlan.f
 have es:=spec_l4Good.ev n E hw (by omega)
 have ei:=impl_IsPrecedence.ev n E (by omega)
 by_cases h:PrecOk n E
 ·have h8:=h.1.1
  obtain ⟨m,rfl⟩:=Int.eq_ofNat_of_zero_le h8.1
  have hin:EdgIn m E:=PairsOk.edg h.1.2.2
  have hd:DiagOk m (cloF m E):=by have:=h.2;rwa [Int.toNat_natCast] at this
  have hp:=preF_of hd
  have hn:m≤8:=by omega
  have h28:=h.1.2.1
  have ht:=spec_l4Table.ev m E hn (by omega) hin
  have hc:=impl_closure.ev m E hn (by omega) hin
  have hred:=impl_reduction.ev (n:=m) (f:=cloF m E) (by omega)
  obtain ⟨F,hFe⟩:∃ F,F=addP (List.replicate m []) (redL (cloF m E) m (pis (cloF m E) m m 0)):=⟨_,rfl⟩
  have hF:F.length=m:=by rw [hFe,addP_len,List.length_replicate]
  have hFr:∀ i:Nat,i<m→rd_L6 F (i:Int)=folI (cloF m E) m i:=fun i hi=>by rw [hFe];exact fol_rows _ _ hi
  obtain ⟨r,l1,l2,l3⟩:=labels_both hn hp hF hFr m 1 (List.replicate m 0) (by omega) (by omega) (by simp) (fun i hi=>by rw [rd_nat (by simpa using hi)];simp) (by unfold zerosF;rw [List.countP_eq_length.2 (fun x hx=>by rw [List.mem_replicate] at hx;simp [hx.2]),List.length_replicate])
  have hspec:Ev (fun k=>spec_l7Labels.f k (m:Int) E) r:=by
   unfold spec_l7Labels.f
   simp only [if_pos (show 0≤(m:Int) by omega),Int.toNat_natCast,if_pos (show m≤35184372088832 by omega)]
   exact ev_bind _ ht l1
  have hredL:(redL (cloF m E) m (pis (cloF m E) m m 0)).length≤100000:=by
   have h1:=List.length_filter_le (fun p:A2=>dirR (cloF m E) p.f0.toNat p.f1.toNat m 0 true) (pis (cloF m E) m m 0)
   have h2:=pis_len (cloF m E) m m 0
   have h3:m * m≤8 * 8:=Nat.mul_le_mul hn hn
   unfold redL
   omega
  have himpl:Ev (fun k=>impl_labelsOf.f k (m:Int) E) r:=by
   unfold impl_labelsOf.f
   simp only [if_pos (show 0≤(m:Int) by omega),Int.toNat_natCast,if_pos (show m≤11728124029610 by omega)]
   refine ev_bind _ hc (ev_bind _ hred ?_)
   refine impl_labels_l0 hn (fun p hp=>?_) hredL r 0 (Nat.zero_le _) _ (by simp) (fun y hy=>by rw [List.mem_replicate] at hy;rw [hy.2];simp) ?_
   ·obtain ⟨a,b,h1,_,_,_,e⟩:=redL_mem.1 hp
    subst e;simp;omega
   ·rw [List.drop_zero,←hFe];exact l2
  have hJ:JobsOk (List.replicate m oneJ):=⟨by simp;omega,fun j hj=>by
   rw [List.mem_replicate] at hj
   rw [hj.2];unfold oneJ JobOk;simp⟩
  have hlen:(List.replicate m oneJ).length=m:=List.length_replicate
  obtain ⟨pl,p1,p2,p3⟩:=listBoth hJ (E:=E) (by rw [hlen];exact h) (order:=sortN (fallLt r) m) (by rw [hlen];exact sortN_isPerm _ _) (m:=2) (by omega)
  have hf:=spec_l7Falling.ev r (by omega)
  rw [l3] at hf
  refine ⟨pl,true,ev_guard' es (fun _=>ev_bind _ (spec_l7Units.ev m (by omega)) (ev_bind _ hspec (ev_bind _ hf (ev_bind _ p3 (Ev.now _))))) (fun hn=>absurd h hn),ev_guard' ei (fun _=>?_) (fun hn=>absurd h hn),by have:=p1.1;rw [hlen] at this;omega⟩
  simp only [if_pos (show 0≤(m:Int)∧(m:Int)≤1048576 by omega)]
  refine ev_bind _ himpl (ev_bind _ (impl_numbersTo.ev m (by omega)) ?_)
  have hg:(nums_to m).length≤1048576∧∀ x ∈ nums_to m,0≤x∧x<(r.length:Int):=⟨by rw [nums_to_length];omega,fun x hx=>by rw [l3];exact mem_nums_to.1 hx⟩
  simp only [if_pos hg]
  rw [Int.toNat_natCast]
  exact ev_bind _ p2 (Ev.now _)
 ·exact ⟨[],false,ev_guard' es (fun h1=>absurd h1 h) (fun _=>Ev.now _),ev_guard' ei (fun h1=>absurd h1 h) (fun _=>Ev.now _),by simp⟩

end Go.Proofs.Ytbcfmegepkhlpaa.Pure
-- minified
