/- Proved here: the statement over numbers and lists alone of the law FnTailsFirst, for all its arguments within the bounds that it names. Conditions: those that each theorem names. -/
import Derived.Test.YtndcbfifmafcoaaQFnTailsFirsta
set_option linter.unusedVariables false
set_option linter.unusedSimpArgs false
namespace Go.Proofs.Ytndcbfifmafcoaa.Pure
open Go.RowKit Go.Proofs.Ytndcbfifmafcoaa.XFnTailsFirst Go.Proofs.YtndcbfifmafcoaaW.PrintWords Go.Proofs.YtndcbfifmafcoaaW.PrintLast
/-- whether a list stands ahead of another -/
def ltL:List Int->List Int->Bool
 | [],[]=>false
 | [],_::_=>true
 | _::_,[]=>false
 | a::l,b::r=>if a=b then ltL l r else decide (a<b)
theorem ltL_irr:∀ a:List Int,ltL a a=false
 | []=>rfl
 | a::l=>by rw [ltL,if_pos rfl,ltL_irr l]
theorem ltL_trans:∀ {a b c:List Int},ltL a b=true->ltL b c=true->ltL a c=true
 | [],[],_,h,_=>by cases h
 | _::_,[],_,h,_=>by cases h
 | [],_::_,[],_,h=>by cases h
 | _::_,_::_,[],_,h=>by cases h
 | [],_::_,_::_,_,_=>rfl
 | x::a,y::b,z::c,h1,h2=>by
  rw [ltL] at h1 h2 ⊢;by_cases e1:x=y
  ·rw [if_pos e1] at h1;by_cases e2:y=z
   ·rw [if_pos e2] at h2;rw [if_pos (e1.trans e2)];exact ltL_trans h1 h2
   ·rw [if_neg e2,decide_eq_true_eq] at h2;rw [if_neg (by omega),decide_eq_true_eq];omega
  ·rw [if_neg e1,decide_eq_true_eq] at h1;by_cases e2:y=z
   ·rw [if_neg (by omega),decide_eq_true_eq];omega
   ·rw [if_neg e2,decide_eq_true_eq] at h2;rw [if_neg (by omega),decide_eq_true_eq];omega
/-- what the greater of two falling lists has ahead of what only the other has -/
theorem lex_exch:∀ {A B:List Int},A.Pairwise (fun a b=>b<a)->B.Pairwise (fun a b=>b<a)->ltL B A=false->∀ {a:Int},a ∈ A->¬ a ∈ B->∃ b,b ∈ B/\¬ b ∈ A/\a<b
 | [],_,_,_,_,_,h,_=>by cases h
 | _::_,[],_,_,h,_,_,_=>by cases h
 | x::A,y::B,hA,hB,h,a,ha,hb=>by
  have hA':=List.pairwise_cons.1 hA;have hB':=List.pairwise_cons.1 hB;rw [ltL] at h;by_cases e:y=x
  ·rw [if_pos e] at h;have ha2:a ∈ A:=(List.mem_cons.1 ha).resolve_left (fun q=>hb (by rw [q,<-e];exact List.mem_cons_self));obtain ⟨b,b1,b2,b3⟩:=lex_exch hA'.2 hB'.2 h ha2 (fun q=>hb (List.mem_cons_of_mem _ q));refine ⟨b,List.mem_cons_of_mem _ b1,fun q=>?_,b3⟩;rcases List.mem_cons.1 q with q|q
   ·have:=hB'.1 b b1;omega
   ·exact b2 q
  ·rw [if_neg e,decide_eq_false_iff_not] at h;have hx:∀ z ∈ x::A,z<=x:=fun z hz=>by
    rcases List.mem_cons.1 hz with q|q
    ·omega
    ·have:=hA'.1 z q;omega
   refine ⟨y,List.mem_cons_self,fun q=>?_,?_⟩
   ·have:=hx y q;omega
   ·have:=hx a ha;omega
theorem less_both (a b:List Int) (hla:a.length<=1000000) (hlb:b.length<=1000000) (ha:∀ x ∈ a,0<=x/\x<=1000000) (hb:∀ x ∈ b,0<=x/\x<=1000000):∃ (c:Int) (d:Bool),Ev (fun k=>impl_compareLists.f k a b) c/\Ev (fun k=>spec_l5Less.f k a b) d/\(c<0 ↔ d=true)/\d=ltL a b:=by
 have fin:∀ i:Nat,i<=a.length->i<=b.length->(¬ (i<a.length/\i<b.length))->∃ (c:Int) (d:Bool),Ev (fun k=>impl_compareLists.j1 k a b (i:Int) false) c/\Ev (fun k=>spec_l5Less.j1 k a b (i:Int) false) d/\(c<0 ↔ d=true)/\d=ltL (a.drop i) (b.drop i):=by
  intro i h1 h2 h3;refine ⟨wrap64 ((a.length:Int) - (b.length:Int)),decide ((a.length:Int)<(b.length:Int)),ev_stop fun k=>?_,ev_stop fun k=>?_,?_,?_⟩
  ·simp only [impl_compareLists.j1];rw [if_neg (by simp)]
  ·simp only [spec_l5Less.j1];rw [if_neg (by simp)]
  ·rw [wr (by omega) (by omega),decide_eq_true_eq];omega
  ·by_cases q:i<a.length
   ·rw [List.drop_eq_getElem_cons q,List.drop_of_length_le (l:=b) (by omega),ltL];exact decide_eq_false (by omega)
   ·rw [List.drop_of_length_le (l:=a) (by omega)];by_cases q2:i<b.length
    ·rw [List.drop_eq_getElem_cons q2,ltL];exact decide_eq_true (by omega)
    ·rw [List.drop_of_length_le (l:=b) (by omega),ltL];exact decide_eq_false (by omega)
 have key:=rev_ind (P:=fun i=>i<=b.length->∃ (c:Int) (d:Bool),Ev (fun k=>impl_compareLists.l0 k a b (i:Int)) c/\Ev (fun k=>spec_l5Less.l0 k a b (i:Int)) d/\(c<0 ↔ d=true)/\d=ltL (a.drop i) (b.drop i)) a.length ?_ ?_ 0 (Nat.zero_le _) (Nat.zero_le _)
 ·simpa [impl_compareLists.f,spec_l5Less.f] using key
 ·intro hib;obtain ⟨c,d,hc,hd,e⟩:=fin a.length (Nat.le_refl _) hib (by omega);refine ⟨c,d,ev_go _ (fun k=>?_) hc,ev_go _ (fun k=>?_) hd,e⟩
  ·simp only [impl_compareLists.l0];rw [if_neg (by omega)]
  ·simp only [spec_l5Less.l0];rw [if_neg (by omega)]
 ·intro i hi ih hib;by_cases q:i<b.length
  ·have hq:decide ((i:Int)<(b.length:Int))=true:=decide_eq_true (by omega);by_cases e:a[i]=b[i]
   ·obtain ⟨c,d,hc,hd,e2⟩:=ih (by omega);refine ⟨c,d,ev_go (fun k=>impl_compareLists.j1 k a b (i:Int) true) (fun k=>?_) (ev_go (fun k=>impl_compareLists.l0 k a b ((i + 1:Nat):Int)) (fun k=>?_) hc),ev_go (fun k=>spec_l5Less.j1 k a b (i:Int) true) (fun k=>?_) (ev_go (fun k=>spec_l5Less.l0 k a b ((i + 1:Nat):Int)) (fun k=>?_) hd),e2.1,by rw [List.drop_eq_getElem_cons hi,List.drop_eq_getElem_cons q,ltL,if_pos e];exact e2.2⟩
    ·simp only [impl_compareLists.l0];rw [if_pos (by omega),hq]
    ·simp only [impl_compareLists.j1];rw [if_pos trivial,if_pos (by omega),if_pos (by omega),if_pos (by omega),rd_nat hi,rd_nat q,if_pos e,wr1 (by omega)]
    ·simp only [spec_l5Less.l0];rw [if_pos (by omega),hq]
    ·simp only [spec_l5Less.j1];rw [if_pos trivial,if_pos (by omega),if_pos (by omega),if_pos (by omega),rd_nat hi,rd_nat q,if_pos e,wr1 (by omega)]
   ·have h1:=ha _ (List.getElem_mem hi);have h2:=hb _ (List.getElem_mem q);refine ⟨wrap64 (a[i] - b[i]),decide (a[i]<b[i]),ev_go (fun k=>impl_compareLists.j1 k a b (i:Int) true) (fun k=>?_) (ev_stop fun k=>?_),ev_go (fun k=>spec_l5Less.j1 k a b (i:Int) true) (fun k=>?_) (ev_stop fun k=>?_),?_,by rw [List.drop_eq_getElem_cons hi,List.drop_eq_getElem_cons q,ltL,if_neg e]⟩
    ·simp only [impl_compareLists.l0];rw [if_pos (by omega),hq]
    ·simp only [impl_compareLists.j1];rw [if_pos trivial,if_pos (by omega),if_pos (by omega),if_pos (by omega),rd_nat hi,rd_nat q,if_neg e]
    ·simp only [spec_l5Less.l0];rw [if_pos (by omega),hq]
    ·simp only [spec_l5Less.j1];rw [if_pos trivial,if_pos (by omega),if_pos (by omega),if_pos (by omega),rd_nat hi,rd_nat q,if_neg e]
    ·rw [wr (by omega) (by omega),decide_eq_true_eq];omega
  ·have hq:decide ((i:Int)<(b.length:Int))=false:=decide_eq_false (by omega);obtain ⟨c,d,hc,hd,e⟩:=fin i (by omega) hib (by omega);refine ⟨c,d,ev_go _ (fun k=>?_) hc,ev_go _ (fun k=>?_) hd,e⟩
   ·simp only [impl_compareLists.l0];rw [if_pos (by omega),hq]
   ·simp only [spec_l5Less.l0];rw [if_pos (by omega),hq]
/-- the direct followers of a job, in their order -/
def folN (f:BF) (i:Nat) (n:Nat):Nat->Nat->List Int
 | 0,_=>[]
 | c + 1,j=>(if f i j=true/\dirR f i j n 0 true=true then [(j:Int)] else [])++folN f i n c (j + 1)
def folI (f:BF) (n i:Nat):List Int:=folN f i n n 0
theorem folN_mem (f:BF) (i n:Nat) (x:Int):∀ (c j:Nat),x ∈ folN f i n c j ↔ ∃ m,j<=m/\m<j + c/\f i m=true/\dirR f i m n 0 true=true/\x=(m:Int)
 | 0,j=>by simp [folN];omega
 | c + 1,j=>by
  rw [folN,List.mem_append,folN_mem f i n x c (j + 1)];constructor
  ·rintro (h | ⟨m,h1,h2,h3,h4,h5⟩)
   ·split at h
    ·rename_i hf
     exact ⟨j,by omega,by omega,hf.1,hf.2,by simpa using h⟩
    ·simp at h
   ·exact ⟨m,by omega,by omega,h3,h4,h5⟩
  ·rintro ⟨m,h1,h2,h3,h4,h5⟩;by_cases e:m=j
   ·subst e;exact .inl (by rw [if_pos ⟨h3,h4⟩,h5];simp)
   ·exact .inr ⟨m,by omega,by omega,h3,h4,h5⟩
theorem folN_len (f:BF) (i n:Nat):∀ (c j:Nat),(folN f i n c j).length<=c
 | 0,_=>by simp [folN]
 | c + 1,j=>by
  have:=folN_len f i n c (j + 1);rw [folN,List.length_append]
  split <;> simp <;> omega
theorem folI_len (f:BF) (n i:Nat):(folI f n i).length<=n:=folN_len f i n n 0
theorem folI_in (f:BF) (n i:Nat):∀ x ∈ folI f n i,∃ m,m<n/\f i m=true/\x=(m:Int):=fun x hx=>by
 obtain ⟨m,h1,h2,h3,_,h5⟩:=(folN_mem f i n x n 0).1 hx;exact ⟨m,by omega,h3,h5⟩
theorem spec_l4Through.ev {n:Nat} {f:BF} (hn:n<=1000) {i j:Nat} (hi:i<n) (hj:j<n):Ev (fun k=>spec_l4Through.f k (tbl n f) (i:Int) (j:Int)) (!dirR f i j n 0 true):=by
 have tl:=tbl_length n f;have key:=rev_ind (P:=fun x=>∃ b,Ev (fun k=>spec_l4Through.l0 k (tbl n f) (i:Int) (j:Int) (x:Int)) b/\(b=true ↔ ∃ y,x<=y/\y<n/\f i y=true/\f y j=true)) n ?_ ?_ 0 (Nat.zero_le _)
 ·obtain ⟨b,hb,e⟩:=key;have:b= !dirR f i j n 0 true:=by
   cases hd:dirR f i j n 0 true with
   | true=>
    have h:=((dirR_true f i j n 0 true).1 hd).2;cases b with
    | false=>rfl
    | true=>
     obtain ⟨y,_,h1,h2,h3⟩:=e.1 rfl;exact absurd ⟨h2,h3⟩ (h y (by omega) (by omega))
   | false=>
    cases b with
    | true=>rfl
    | false=>
     exfalso
     have:dirR f i j n 0 true=true:=(dirR_true f i j n 0 true).2 ⟨rfl,fun x h1 h2 h3=>by
      have:=e.2 ⟨x,by omega,by omega,h3.1,h3.2⟩;cases this⟩
     rw [hd] at this;cases this
  rw [<-this];exact hb
 ·refine ⟨false,ev_stop fun k=>?_,⟨fun h=>(by cases h),fun ⟨y,h1,h2,_⟩=>(by omega)⟩⟩;simp only [spec_l4Through.l0];rw [if_neg (by rw [tl];omega)]
 ·rintro x hx ⟨b,hb,e⟩;have r1:=tbl_rowlen (f:=f) hi;have r2:=tbl_rowlen (f:=f) hx;have e1:=tbl_at (f:=f) hi hx;have e2:=tbl_at (f:=f) hx hj;by_cases c1:f i x=true
  ·by_cases c2:f x j=true
   ·refine ⟨true,ev_stop fun k=>?_,⟨fun _=>⟨x,Nat.le_refl _,hx,c1,c2⟩,fun _=>rfl⟩⟩;simp only [spec_l4Through.l0];rw [if_pos (by rw [tl];omega),if_pos (by omega),if_pos (by rw [tl];omega),if_pos (by omega),if_pos (by rw [r1];omega),e1,if_pos c1,if_pos (by omega),if_pos (by rw [r2];omega),e2,if_pos c2]
   ·refine ⟨b,ev_go _ (fun k=>?_) hb,e.trans ⟨fun ⟨y,h1,h2,h3,h4⟩=>⟨y,by omega,h2,h3,h4⟩,fun ⟨y,h1,h2,h3,h4⟩=>⟨y,by
     rcases Nat.eq_or_lt_of_le h1 with h|h
     ·subst h;exact absurd h4 c2
     ·omega,h2,h3,h4⟩⟩⟩
    simp only [spec_l4Through.l0];rw [if_pos (by rw [tl];omega),if_pos (by omega),if_pos (by rw [tl];omega),if_pos (by omega),if_pos (by rw [r1];omega),e1,if_pos c1,if_pos (by omega),if_pos (by rw [r2];omega),e2,if_neg c2,wr1 (by omega)]
  ·refine ⟨b,ev_go _ (fun k=>?_) hb,e.trans ⟨fun ⟨y,h1,h2,h3,h4⟩=>⟨y,by omega,h2,h3,h4⟩,fun ⟨y,h1,h2,h3,h4⟩=>⟨y,by
     rcases Nat.eq_or_lt_of_le h1 with h|h
     ·subst h;exact absurd h3 c1
     ·omega,h2,h3,h4⟩⟩⟩
   simp only [spec_l4Through.l0];rw [if_pos (by rw [tl];omega),if_pos (by omega),if_pos (by rw [tl];omega),if_pos (by omega),if_pos (by rw [r1];omega),e1,if_neg c1,wr1 (by omega)]
theorem spec_l7Followers.ev {n:Nat} {f:BF} (hn:n<=1000) {i:Nat} (hi:i<n):Ev (fun k=>spec_l7Followers.f k (tbl n f) (i:Int)) (folI f n i):=by
 have tl:=tbl_length n f;have r1:=tbl_rowlen (f:=f) hi;have main:∀ (c j:Nat) (acc:List Int),j + c=n->acc.length + c<=100000->Ev (fun k=>spec_l7Followers.l0 k (tbl n f) (i:Int) acc (j:Int)) (acc++folN f i n c j):=by
  intro c
  induction c with
  | zero=>
   intro j acc hj _;rw [folN,List.append_nil];refine ev_stop fun k=>?_
   simp only [spec_l7Followers.l0];rw [if_neg (by rw [tl];omega)]
  | succ c ih=>
   intro j acc hj hl;have hjn:j<n:=by omega
   have e1:=tbl_at (f:=f) hi hjn;rw [folN];by_cases c1:f i j=true
   ·refine ev_go (fun k=>(spec_l4Through.f k (tbl n f) (i:Int) (j:Int)).bind fun t251=>(if t251=true then (spec_l7Followers.l0 k (tbl n f) (i:Int) acc ((j + 1:Nat):Int)) else (if acc.length<17592186044416 then (spec_l7Followers.l0 k (tbl n f) (i:Int) (acc++[(j:Int)]) ((j + 1:Nat):Int)) else (none)))) (fun k=>?_) (ev_bind _ (spec_l4Through.ev hn hi hjn) ?_)
    ·simp only [spec_l7Followers.l0];rw [if_pos (by rw [tl];omega),if_pos (by omega),if_pos (by rw [tl];omega),if_pos (by omega),if_pos (by rw [r1];omega),e1,if_pos c1,wr1 (by omega)]
    ·cases hd:dirR f i j n 0 true with
     | true=>
      rw [if_pos ⟨c1,rfl⟩,<-List.append_assoc];simp only [Bool.not_true,Bool.false_eq_true,if_false,if_pos (show acc.length<17592186044416 by omega)];exact ih (j + 1) _ (by omega) (by simp;omega)
     | false=>
      rw [if_neg (by simp),List.nil_append];simp only [Bool.not_false,if_true];exact ih (j + 1) _ (by omega) (by omega)
   ·rw [if_neg (fun h=>c1 h.1),List.nil_append];refine ev_go _ (fun k=>?_) (ih (j + 1) acc (by omega) (by omega));simp only [spec_l7Followers.l0];rw [if_pos (by rw [tl];omega),if_pos (by omega),if_pos (by rw [tl];omega),if_pos (by omega),if_pos (by rw [r1];omega),e1,if_neg c1,wr1 (by omega)]
 have:=main n 0 [] (by omega) (by simp;omega)
 simpa [folI,spec_l7Followers.f] using this
/-- rows that pairs are appended to -/
def addP:List (List Int)->List A2->List (List Int)
 | R,[]=>R
 | R,p::L=>addP (R.set p.f0.toNat (rd_L7 R p.f0++[p.f1])) L
theorem addP_len:∀ (L:List A2) (R:List (List Int)),(addP R L).length=R.length
 | [],_=>rfl
 | p::L,R=>by rw [addP,addP_len L,List.length_set]
theorem rdLI_set {R:List (List Int)} {i j:Nat} (hi:i<R.length) (hj:j<R.length) (v:List Int):rd_L7 (R.set i v) (j:Int)=if i=j then v else rd_L7 R (j:Int):=by
 have h1:j<(R.set i v).length:=by rw [List.length_set];exact hj
 simp only [rd_L7,Int.toNat_natCast,List.getD_eq_getElem?_getD,List.getElem?_eq_getElem h1,List.getElem?_eq_getElem hj,Option.getD_some,List.getElem_set]
theorem addP_row:∀ (L:List A2) (R:List (List Int)) (i:Nat),i<R.length->(∀ p ∈ L,0<=p.f0/\p.f0<(R.length:Int))->rd_L7 (addP R L) (i:Int)=rd_L7 R (i:Int)++(L.filter fun p=>decide (p.f0=(i:Int))).map fun p=>p.f1
 | [],R,i,_,_=>by simp [addP]
 | p::L,R,i,hi,h=>by
  have hp:=h p List.mem_cons_self;rw [addP,addP_row L _ i (by rw [List.length_set];exact hi) (fun q hq=>by rw [List.length_set];exact h q (List.mem_cons_of_mem _ hq)),rdLI_set (by omega) hi];by_cases e:p.f0=(i:Int)
  ·rw [if_pos (by omega),List.filter_cons_of_pos (by simpa using e),List.map_cons,e,List.append_assoc]
   rfl
  ·rw [if_neg (by omega),List.filter_cons_of_neg (by simpa using e)]
theorem pjs_row (f:BF) (i n:Nat):∀ (c j:Nat),((pjs f i c j).filter fun p=>dirR f p.f0.toNat p.f1.toNat n 0 true).map (fun p=>p.f1)=folN f i n c j
 | 0,_=>rfl
 | c + 1,j=>by
  rw [pjs,folN,List.filter_append,List.map_append,pjs_row f i n c (j + 1)]
  congr 1
  by_cases c1:f i j=true
  ·rw [if_pos c1];by_cases c2:dirR f i j n 0 true=true
   ·rw [if_pos ⟨c1,c2⟩];simp [c2]
   ·rw [if_neg (fun h=>c2 h.2)];simp [c2]
  ·rw [if_neg c1,if_neg (fun h=>c1 h.1)];rfl
theorem pjs_f0 (f:BF) (i:Nat):∀ (c j:Nat),∀ p ∈ pjs f i c j,p.f0=(i:Int):=fun c j p hp=>by
 obtain ⟨m,_,_,_,e⟩:=(pjs_mem f i p c j).1 hp;rw [e]
theorem pis_row (f:BF) (n i:Nat):∀ (c s:Nat),(((pis f n c s).filter fun p=>dirR f p.f0.toNat p.f1.toNat n 0 true).filter fun p=>decide (p.f0=(i:Int))).map (fun p=>p.f1)=if s<=i/\i<s + c then folI f n i else []
 | 0,s=>by rw [if_neg (by omega)];rfl
 | c + 1,s=>by
  rw [pis,List.filter_append,List.filter_append,List.map_append,pis_row f n i c (s + 1)];by_cases e:s=i
  ·subst e;rw [if_neg (by omega),if_pos (by omega),List.append_nil,List.filter_eq_self.2 (fun p hp=>by
    have:=pjs_f0 f s n 0 p (List.mem_filter.1 hp).1
    simpa using this),pjs_row]
   rfl
  ·have:((pjs f s n 0).filter fun p=>dirR f p.f0.toNat p.f1.toNat n 0 true).filter (fun p=>decide (p.f0=(i:Int)))=[]:=by
    rw [List.filter_eq_nil_iff];intro p hp;have:=pjs_f0 f s n 0 p (List.mem_filter.1 hp).1;simp;omega
   rw [this,List.map_nil,List.nil_append];by_cases c1:s + 1<=i/\i<s + 1 + c
   ·rw [if_pos c1,if_pos (by omega)]
   ·rw [if_neg c1,if_neg (by omega)]
theorem fol_rows (f:BF) (n:Nat) {i:Nat} (hi:i<n):rd_L7 (addP (List.replicate n []) (redL f n (pis f n n 0))) (i:Int)=folI f n i:=by
 rw [addP_row _ _ i (by simpa using hi) (fun p hp=>by
  obtain ⟨a,b,h1,_,_,_,e⟩:=redL_mem.1 hp;subst e;simp;omega)]
 have h:=pis_row f n i n 0;rw [if_pos (by omega)] at h;unfold redL;rw [h];simp [rd_L7,hi]
def labOf (L l:List Int):List Int:=l.map fun j=>rd L j
def byLab:Nat->List Int->List Int
 | 0,_=>[]
 | c + 1,l=>(l.filter fun x=>decide (x=((c + 1:Nat):Int)))++byLab c l
theorem filt_split (p q r:Int->Bool) (h:∀ x,r x=(p x || q x)) (hd:∀ x,p x=true->q x=false):∀ l:List Int,(l.filter p++l.filter q).Perm (l.filter r)
 | []=>List.Perm.refl _
 | x::l=>by
  have ih:=filt_split p q r h hd l;cases hp:p x with
  | true=>
   have hq:=hd x hp;have hr:r x=true:=by rw [h,hp];rfl
   rw [List.filter_cons_of_pos hp,List.filter_cons_of_neg (by rw [hq];simp),List.filter_cons_of_pos hr,List.cons_append];exact ih.cons x
  | false=>
   rw [List.filter_cons_of_neg (by rw [hp];simp)];cases hq:q x with
   | true=>
    have hr:r x=true:=by rw [h,hq];simp
    rw [List.filter_cons_of_pos hq,List.filter_cons_of_pos hr];exact List.perm_middle.trans (ih.cons x)
   | false=>
    have hr:r x=false:=by rw [h,hp,hq];rfl
    rw [List.filter_cons_of_neg (by rw [hq];simp),List.filter_cons_of_neg (by rw [hr];simp)];exact ih
theorem byLab_perm:∀ (c:Nat) (l:List Int),(byLab c l).Perm (l.filter fun x=>decide (0<x/\x<=(c:Int)))
 | 0,l=>by
  rw [byLab,List.filter_eq_nil_iff.2 (fun x _=>by rw [decide_eq_true_eq];omega)]
 | c + 1,l=>by
  rw [byLab];refine ((byLab_perm c l).append_left _).trans (filt_split _ _ _ (fun x=>?_) (fun x h=>?_) l)
  ·rw [<-Bool.decide_or,decide_eq_decide];omega
  ·rw [decide_eq_true_eq] at h;rw [decide_eq_false_iff_not];omega
theorem byLab_mem {c:Nat} {l:List Int} {x:Int} (h:x ∈ byLab c l):x ∈ l/\0<x/\x<=(c:Int):=by
 have:=(byLab_perm c l).mem_iff.1 h;rw [List.mem_filter,decide_eq_true_eq] at this;exact this
theorem byLab_desc:∀ (c:Nat) (l:List Int),(byLab c l).Pairwise fun a b=>b<=a
 | 0,_=>List.Pairwise.nil
 | c + 1,l=>by
  rw [byLab,List.pairwise_append];refine ⟨List.Pairwise.imp_of_mem ?_ (List.pairwise_of_forall (R:=fun _ _=>True) (fun _ _=>trivial)),byLab_desc c l,fun a ha b hb=>?_⟩
  ·intro a b ha hb _;rw [List.mem_filter,decide_eq_true_eq] at ha hb;omega
  ·have:=(byLab_mem hb).2.2;rw [List.mem_filter,decide_eq_true_eq] at ha;omega
theorem byLab_len {c:Nat} {l:List Int} (h:∀ x ∈ l,0<=x/\x<=(c:Int)):(byLab c l).length<=l.length/\((byLab c l).length=l.length ↔ ∀ x ∈ l,0<x):=by
 rw [(byLab_perm c l).length_eq];refine ⟨List.length_filter_le _ _,?_⟩;rw [List.length_filter_eq_length_iff];constructor
 ·intro h1 x hx;have:=h1 x hx;rw [decide_eq_true_eq] at this;exact this.1
 ·intro h1 x hx;rw [decide_eq_true_eq];exact ⟨h1 x hx,(h x hx).2⟩
theorem downLt_pre (P:Int->Prop):Pre downLt P:=by
 have:=pre_key (fun a=> - a) P;have e:downLt=fun a b=>decide (- a < - b):=by funext a b;unfold downLt;rw [decide_eq_decide];omega
 rw [e];exact this
theorem byLab_sorted {c:Nat} {l:List Int} (h:∀ x ∈ l,0<x/\x<=(c:Int)):insAll downLt l []=byLab c l:=by
 have h1:(insAll downLt l []).Pairwise fun a b=>b<=a:=(insAll_sorted (downLt_pre (fun _=>True)) l [] (fun _ _=>trivial) (fun _ _=>trivial) List.Pairwise.nil).imp fun {a b} hab=>by
  unfold downLt at hab;rw [decide_eq_false_iff_not] at hab;omega
 have hp:=insAll_perm downLt l [];rw [List.append_nil] at hp;have hb:=byLab_perm c l;rw [List.filter_eq_self.2 (fun x hx=>by simpa using h x hx)] at hb;exact List.Perm.eq_of_pairwise (fun a b _ _ h h'=>by omega) h1 (byLab_desc c l) (hp.trans hb.symm)
theorem labOf_cons {L l:List Int} {i:Nat} (hi:i<l.length):labOf L (l.drop i)=rd L l[i]::labOf L (l.drop (i + 1)):=by
 rw [drop_cons hi];rfl
theorem told_l1 {L l:List Int} (hin:∀ x ∈ l,0<=x/\x<(L.length:Int)) (hl:l.length<=1000) (v:Int) (R:List Int × Bool):∀ i,i<=l.length->∀ acc:List Int,acc.length + (l.length - i)<=1000000->Ev (fun k=>spec_l7Told.l0 k L l (acc++(labOf L (l.drop i)).filter fun x=>decide (x=v)) (wrap64 (v - 1))) R->Ev (fun k=>spec_l7Told.l1 k L l acc v (i:Int)) R:=by
 refine rev_ind l.length (fun acc _ h=>?_) (fun i hi ih acc hlen h=>?_)
 ·rw [List.drop_length] at h;simp only [labOf,List.map_nil,List.filter_nil,List.append_nil] at h;refine ev_go _ (fun k=>?_) h;simp only [spec_l7Told.l1];rw [if_neg (by omega)]
 ·have hx:=hin _ (List.getElem_mem hi);rw [labOf_cons hi] at h;by_cases c:rd L l[i]=v
  ·rw [List.filter_cons_of_pos (by simpa using c),c,<-List.singleton_append,<-List.append_assoc] at h;refine ev_go _ (fun k=>?_) (ih (acc++[v]) (by simp;omega) h);simp only [spec_l7Told.l1];rw [rd_nat hi,if_pos (by omega),if_pos (by omega),if_pos hx.1,if_pos hx.2,if_pos c,if_pos (by omega),wr1 (by omega)]
  ·rw [List.filter_cons_of_neg (by simpa using c)] at h;refine ev_go _ (fun k=>?_) (ih acc (by omega) h);simp only [spec_l7Told.l1];rw [rd_nat hi,if_pos (by omega),if_pos (by omega),if_pos hx.1,if_pos hx.2,if_neg c,wr1 (by omega)]
theorem told_l0 {L l:List Int} (hin:∀ x ∈ l,0<=x/\x<(L.length:Int)) (hl:l.length<=1000):∀ (c:Nat) (acc:List Int),c<=100->acc.length + c * 1000<=200000->Ev (fun k=>spec_l7Told.l0 k L l acc (c:Int)) (acc++byLab c (labOf L l),(((acc++byLab c (labOf L l)).length:Int) == (l.length:Int)))
 | 0,acc,_,_=>by
  rw [byLab,List.append_nil];refine ev_stop fun k=>?_
  simp only [spec_l7Told.l0];rw [if_neg (by omega)]
 | c + 1,acc,hc,hacc=>by
  have hf:((labOf L l).filter fun x=>decide (x=((c + 1:Nat):Int))).length<=1000:=by
   have:=List.length_filter_le (fun x=>decide (x=((c + 1:Nat):Int))) (labOf L l);have h2:(labOf L l).length=l.length:=by simp [labOf]
   omega
  have ih:=told_l0 hin hl c (acc++(labOf L l).filter fun x=>decide (x=((c + 1:Nat):Int))) (by omega) (by rw [List.length_append];omega);rw [List.append_assoc,<-byLab] at ih;have h1:=told_l1 hin hl ((c + 1:Nat):Int) _ 0 (Nat.zero_le _) acc (by omega) (by
   rw [List.drop_zero,wr (by omega) (by omega),show ((c + 1:Nat):Int) - 1=(c:Int) by omega];exact ih)
  refine ev_go _ (fun k=>?_) h1;simp only [spec_l7Told.l0];rw [if_pos (by omega)];rfl
theorem spec_l7Told.ev {n:Nat} {f:BF} (hn:n<=8) {i:Nat} (hi:i<n) {L:List Int} (hL:L.length=n):Ev (fun k=>spec_l7Told.f k (tbl n f) L (i:Int)) (byLab n (labOf L (folI f n i)),(((byLab n (labOf L (folI f n i))).length:Int) == ((folI f n i).length:Int))):=by
 unfold spec_l7Told.f;refine ev_bind _ (spec_l7Followers.ev (by omega) hi) ?_;have hl:=folI_len f n i;have:=told_l0 (L:=L) (l:=folI f n i) (fun x hx=>by
  obtain ⟨m,h1,_,h3⟩:=folI_in f n i x hx;omega) (by omega) n [] (by omega) (by simp;omega)
 rw [List.nil_append] at this;rw [hL];exact this
def KnownB (L:List Int) (f:BF) (n i:Nat):Prop:=∀ x ∈ labOf L (folI f n i),0<x
theorem lab_in {L:List Int} {f:BF} {n:Nat} (hv:∀ i:Nat,i<n->0<=rd L (i:Int)/\rd L (i:Int)<=(n:Int)) (i:Nat):∀ x ∈ labOf L (folI f n i),0<=x/\x<=(n:Int):=fun x hx=>by
 obtain ⟨y,hy,rfl⟩:=List.mem_map.1 hx;obtain ⟨m,h1,_,h3⟩:=folI_in f n i y hy;subst h3;exact hv m h1
/-- whether k is a direct follower of i -/
def DF (f:BF) (n i k:Nat):Prop:=f i k=true/\dirR f i k n 0 true=true
theorem folI_mem {f:BF} {n i:Nat} {x:Int} : x ∈ folI f n i ↔ ∃ m:Nat,m<n/\DF f n i m/\x=(m:Int):=by
 unfold folI DF;rw [folN_mem];exact ⟨fun ⟨m,_,h2,h3,h4,h5⟩=>⟨m,by omega,⟨h3,h4⟩,h5⟩,fun ⟨m,h2,h3,h5⟩=>⟨m,by omega,by omega,h3.1,h3.2,h5⟩⟩
abbrev keyL (f:BF) (n:Nat) (L:List Int) (j:Nat):List Int:=byLab n (labOf L (folI f n j))
theorem known_iff {L:List Int} {f:BF} {n i:Nat} : KnownB L f n i ↔ ∀ k,k<n->DF f n i k->0<rd L (k:Int):=by
 constructor
 ·intro h k hk hd;exact h _ (List.mem_map.2 ⟨(k:Int),folI_mem.2 ⟨k,hk,hd,rfl⟩,rfl⟩)
 ·intro h x hx;obtain ⟨y,hy,rfl⟩:=List.mem_map.1 hx;obtain ⟨m,hm,hd,rfl⟩:=folI_mem.1 hy;exact h m hm hd
theorem keyL_congr {f:BF} {n i:Nat} {L L':List Int} (h:∀ k,k<n->DF f n i k->rd L (k:Int)=rd L' (k:Int)):keyL f n L i=keyL f n L' i:=by
 unfold keyL labOf;rw [List.map_congr_left (fun y hy=>by
  obtain ⟨m,hm,hd,rfl⟩:=folI_mem.1 hy;exact h m hm hd)]
def BestSt (f:BF) (n:Nat) (L:List Int) (i:Nat) (best:Int) (least:List Int):Prop:=
 (best= -1/\∀ j:Nat,j<i->rd L (j:Int)=0->¬ KnownB L f n j)\/∃ b:Nat,b<n/\best=(b:Int)/\rd L (b:Int)=0/\KnownB L f n b/\least=keyL f n L b/\∀ j:Nat,j<i->rd L (j:Int)=0->KnownB L f n j->ltL (keyL f n L j) least=false
theorem BestSt.skip {f:BF} {n:Nat} {L:List Int} {i:Nat} {best:Int} {least:List Int} (h:BestSt f n L i best least) (hn:rd L (i:Int)=0->¬ KnownB L f n i):BestSt f n L (i + 1) best least:=by
 have cut:∀ j:Nat,j<i + 1->rd L (j:Int)=0->KnownB L f n j->j<i:=fun j hj h0 hk=>by
  by_cases e:j=i
  ·subst e;exact absurd hk (hn h0)
  ·omega
 rcases h with ⟨h1,h2⟩ | ⟨b,h1,h2,h3,h4,h5,h6⟩
 ·exact .inl ⟨h1,fun j hj h0 hk=>h2 j (cut j hj h0 hk) h0 hk⟩
 ·exact .inr ⟨b,h1,h2,h3,h4,h5,fun j hj h0 hk=>h6 j (cut j hj h0 hk) h0 hk⟩
theorem BestSt.take {f:BF} {n:Nat} {L:List Int} {i:Nat} {best:Int} {least:List Int} (h:BestSt f n L i best least) (hi:i<n) (h0:rd L (i:Int)=0) (hk:KnownB L f n i) (hl:best<0\/ltL (keyL f n L i) least=true):BestSt f n L (i + 1) (i:Int) (keyL f n L i):=by
 refine .inr ⟨i,hi,rfl,h0,hk,rfl,fun j hj j0 jk=>?_⟩;by_cases e:j=i
 ·subst e;exact ltL_irr _
 ·rcases h with ⟨h1,h2⟩ | ⟨b,h1,h2,h3,h4,h5,h6⟩
  ·exact absurd jk (h2 j (by omega) j0)
  ·have h7:=h6 j (by omega) j0 jk;rcases hl with hl|hl
   ·omega
   ·refine Bool.eq_false_iff.2 fun q=>?_
    rw [ltL_trans q hl] at h7;cases h7
theorem BestSt.keep {f:BF} {n:Nat} {L:List Int} {i:Nat} {best:Int} {least:List Int} (h:BestSt f n L i best least) (hb:¬ best<0) (hl:ltL (keyL f n L i) least=false):BestSt f n L (i + 1) best least:=by
 rcases h with ⟨h1,h2⟩ | ⟨b,h1,h2,h3,h4,h5,h6⟩
 ·omega
 ·refine .inr ⟨b,h1,h2,h3,h4,h5,fun j hj j0 jk=>?_⟩;by_cases e:j=i
  ·subst e;exact hl
  ·exact h6 j (by omega) j0 jk
theorem impl_l3 {n:Nat} {F:List (List Int)} {L l:List Int} (hin:∀ x ∈ l,0<=x/\x<(L.length:Int)) (hl:l.length<=1000) (v best i:Int) (least:List Int) (R:List Int) (hB:L.length=n):∀ x,x<=l.length->∀ (acc:List Int) (kn:Bool),acc.length + (l.length - x)<=100000->Ev (fun k=>(impl_sortedDown.f k (acc++labOf L (l.drop x))).bind fun t405=>(if (kn && (labOf L (l.drop x)).all fun y=>decide (0<y))=true then (if best<0 then (impl_labelsOf.l2 k (n:Int) F L v i t405 (n:Int) (wrap64 (i + 1))) else ((impl_compareLists.f k t405 least).bind fun t408=>(if t408<0 then (impl_labelsOf.l2 k (n:Int) F L v i t405 (n:Int) (wrap64 (i + 1))) else (impl_labelsOf.l2 k (n:Int) F L v best least (n:Int) (wrap64 (i + 1)))))) else (impl_labelsOf.l2 k (n:Int) F L v best least (n:Int) (wrap64 (i + 1))))) R->Ev (fun k=>impl_labelsOf.l3 k (n:Int) F L v best least i acc kn (n:Int) i l (l.length:Int) (x:Int)) R:=by
 refine rev_ind l.length (fun acc kn _ h=>?_) (fun x hx ih acc kn hlen h=>?_)
 ·rw [List.drop_length] at h;simp only [labOf,List.map_nil,List.append_nil,List.all_nil,Bool.and_true] at h;refine ev_go _ (fun k=>?_) h;simp only [impl_labelsOf.l3];rw [if_neg (by omega)]
 ·have hy:=hin _ (List.getElem_mem hx);rw [labOf_cons hx,List.all_cons,<-List.singleton_append,<-List.append_assoc,<-Bool.and_assoc] at h;have:=ih (acc++[rd L l[x]]) (kn && decide (0<rd L l[x])) (by simp;omega) h;refine ev_go _ (fun k=>?_) this;simp only [impl_labelsOf.l3];rw [rd_nat hx,if_pos (by omega),if_pos (by omega),if_pos (by omega)];cases kn with
  | true=>rw [if_pos rfl,if_pos hy.1,if_pos hy.2,if_pos (by omega),wr1 (by omega)];rfl
  | false=>rw [if_neg (by simp),if_pos hy.1,if_pos hy.2,if_pos (by omega),wr1 (by omega)];rfl
theorem pick_both {n:Nat} {f:BF} (hn:n<=8) {F:List (List Int)} (hF:F.length=n) (hFr:∀ i:Nat,i<n->rd_L7 F (i:Int)=folI f n i) {L:List Int} (hL:L.length=n) (hv:∀ i:Nat,i<n->0<=rd L (i:Int)/\rd L (i:Int)<=(n:Int)) (v:Int) (Q:List Int->Prop)
  (cont:∀ b:Nat,b<n->rd L (b:Int)=0->KnownB L f n b->(∀ j:Nat,j<n->rd L (j:Int)=0->KnownB L f n j->ltL (keyL f n L j) (keyL f n L b)=false)->∃ r,Ev (fun k=>spec_l7Labels.l0 k (n:Int) (L.set b v) (tbl n f) (wrap64 (v + 1))) r/\Ev (fun k=>impl_labelsOf.l1 k (n:Int) F (L.set b v) (wrap64 (v + 1))) r/\Q r) :
  ∀ i,i<=n->∀ (best:Int) (least:List Int),BestSt f n L i best least->(least.length<=1000/\∀ x ∈ least,0<=x/\x<=1000000)->(best= -1->∃ j,i<=j/\j<n/\rd L (j:Int)=0/\KnownB L f n j)->
   ∃ r,Ev (fun k=>spec_l7Labels.l1 k (n:Int) L (tbl n f) v best least (i:Int)) r/\Ev (fun k=>impl_labelsOf.l2 k (n:Int) F L v best least (n:Int) (i:Int)) r/\Q r:=by
 refine rev_ind n (fun best least hb _ hex=>?_) (fun i hi ih best least hb hleast hex=>?_)
 ·rcases hb with ⟨hb,_⟩ | ⟨b,hb1,hb2,hb3,hb4,hb5,hb6⟩
  ·obtain ⟨j,h1,h2,_⟩:=hex hb;omega
  ·obtain ⟨r,h1,h2,h3⟩:=cont b hb1 hb3 hb4 (by rw [<-hb5];exact hb6);subst hb2;refine ⟨r,ev_go _ (fun k=>?_) h1,ev_go _ (fun k=>?_) h2,h3⟩
   ·simp only [spec_l7Labels.l1];rw [if_neg (by omega),if_pos (by omega),if_pos (by omega),Int.toNat_natCast]
   ·simp only [impl_labelsOf.l2];rw [if_neg (by omega),if_pos (by omega),if_pos (by omega),Int.toNat_natCast]
 ·have told:=spec_l7Told.ev (f:=f) hn hi hL;have hvi:=hv i hi;have hin:=lab_in (f:=f) hv i;have hlf:=folI_len f n i;have hll:(labOf L (folI f n i)).length=(folI f n i).length:=by simp [labOf]
  obtain ⟨hbl,hbk⟩:=byLab_len hin;have hfin:∀ x ∈ folI f n i,0<=x/\x<(L.length:Int):=fun x hx=>by
   obtain ⟨m,h1,_,h3⟩:=folI_in f n i x hx;omega
  have sgo:∀ r,Ev (fun k=>if rd L (i:Int)=0 then (if (((byLab n (labOf L (folI f n i))).length:Int) == ((folI f n i).length:Int))=true then (if best<0 then (spec_l7Labels.l1 k (n:Int) L (tbl n f) v (i:Int) (byLab n (labOf L (folI f n i))) ((i + 1:Nat):Int)) else ((spec_l5Less.f k (byLab n (labOf L (folI f n i))) least).bind fun t285=>(if t285=true then (spec_l7Labels.l1 k (n:Int) L (tbl n f) v (i:Int) (byLab n (labOf L (folI f n i))) ((i + 1:Nat):Int)) else (spec_l7Labels.l1 k (n:Int) L (tbl n f) v best least ((i + 1:Nat):Int))))) else (spec_l7Labels.l1 k (n:Int) L (tbl n f) v best least ((i + 1:Nat):Int))) else (spec_l7Labels.l1 k (n:Int) L (tbl n f) v best least ((i + 1:Nat):Int))) r->Ev (fun k=>spec_l7Labels.l1 k (n:Int) L (tbl n f) v best least (i:Int)) r:=fun r h=>by
   refine ev_go (fun k=>(spec_l7Told.f k (tbl n f) L (i:Int)).bind fun bt280=>if rd L (i:Int)=0 then (if bt280.2=true then (if best<0 then (spec_l7Labels.l1 k (n:Int) L (tbl n f) v (i:Int) bt280.1 ((i + 1:Nat):Int)) else ((spec_l5Less.f k bt280.1 least).bind fun t285=>(if t285=true then (spec_l7Labels.l1 k (n:Int) L (tbl n f) v (i:Int) bt280.1 ((i + 1:Nat):Int)) else (spec_l7Labels.l1 k (n:Int) L (tbl n f) v best least ((i + 1:Nat):Int))))) else (spec_l7Labels.l1 k (n:Int) L (tbl n f) v best least ((i + 1:Nat):Int))) else (spec_l7Labels.l1 k (n:Int) L (tbl n f) v best least ((i + 1:Nat):Int))) (fun k=>?_) (ev_bind _ told h);simp only [spec_l7Labels.l1];rw [if_pos (by omega),wr1 (by omega)];simp only [if_pos (show 0<=(i:Int) by omega),if_pos (show (i:Int)<(L.length:Int) by omega)]
  have igo:∀ r,rd L (i:Int)=0->Ev (fun k=>(impl_sortedDown.f k (labOf L (folI f n i))).bind fun t405=>(if ((labOf L (folI f n i)).all fun y=>decide (0<y))=true then (if best<0 then (impl_labelsOf.l2 k (n:Int) F L v (i:Int) t405 (n:Int) ((i + 1:Nat):Int)) else ((impl_compareLists.f k t405 least).bind fun t408=>(if t408<0 then (impl_labelsOf.l2 k (n:Int) F L v (i:Int) t405 (n:Int) ((i + 1:Nat):Int)) else (impl_labelsOf.l2 k (n:Int) F L v best least (n:Int) ((i + 1:Nat):Int))))) else (impl_labelsOf.l2 k (n:Int) F L v best least (n:Int) ((i + 1:Nat):Int)))) r->Ev (fun k=>impl_labelsOf.l2 k (n:Int) F L v best least (n:Int) (i:Int)) r:=fun r h0 h=>by
   have h3:=impl_l3 (F:=F) hfin (by omega) v best (i:Int) least r hL 0 (Nat.zero_le _) [] true (by simp;omega) (by
    rw [List.drop_zero,List.nil_append,Bool.true_and,wr1 (by omega)];exact h)
   refine ev_go _ (fun k=>?_) h3;simp only [impl_labelsOf.l2];rw [if_pos (by omega),if_pos (by omega),if_pos (by omega),if_neg (by omega),if_pos (by omega),hFr i hi]
   rfl
  by_cases c0:rd L (i:Int)=0
  ·have hsort:∀ {r:List Int} {g:Nat->List Int->Option (List Int)},Ev (fun k=>g k (insAll downLt (labOf L (folI f n i)) [])) r->Ev (fun k=>(impl_sortedDown.f k (labOf L (folI f n i))).bind (g k)) r:=fun {r g} h=>by
    refine ev_bind _ ?_ h;unfold impl_sortedDown.f;rw [if_pos (by omega)];exact Ev.now _
   by_cases ck:KnownB L f n i
   ·have hall:((labOf L (folI f n i)).all fun y=>decide (0<y))=true:=by
     rw [List.all_eq_true];intro y hy;exact decide_eq_true (ck y hy)
    have hlen:(byLab n (labOf L (folI f n i))).length=(labOf L (folI f n i)).length:=hbk.2 ck;have hok:(((byLab n (labOf L (folI f n i))).length:Int) == ((folI f n i).length:Int))=true:=by
     rw [hlen,hll];simp
    have hsame:=byLab_sorted (c:=n) (l:=labOf L (folI f n i)) (fun x hx=>⟨ck x hx,(hin x hx).2⟩);have hbin:(byLab n (labOf L (folI f n i))).length<=1000/\∀ x ∈ byLab n (labOf L (folI f n i)),0<=x/\x<=1000000:=⟨by omega,fun x hx=>by have:=byLab_mem hx;omega⟩;by_cases cb:best<0
    ·obtain ⟨r,h1,h2,h3⟩:=ih (i:Int) (byLab n (labOf L (folI f n i))) (hb.take hi c0 ck (.inl cb)) hbin (fun h=>by omega);refine ⟨r,sgo r ?_,igo r c0 (hsort ?_),h3⟩
     ·simp only [if_pos c0,if_pos hok,if_pos cb];exact h1
     ·rw [hsame];simp only [if_pos hall,if_pos cb];exact h2
    ·obtain ⟨c,d,e1,e2,e3,e4⟩:=less_both (byLab n (labOf L (folI f n i))) least (by omega) (by omega) hbin.2 hleast.2;by_cases cl:c<0
     ·obtain ⟨r,h1,h2,h3⟩:=ih (i:Int) (byLab n (labOf L (folI f n i))) (hb.take hi c0 ck (.inr (by show ltL (byLab n (labOf L (folI f n i))) least=true;rw [<-e4];exact e3.1 cl))) hbin (fun h=>by omega);refine ⟨r,sgo r ?_,igo r c0 (hsort ?_),h3⟩
      ·simp only [if_pos c0,if_pos hok,if_neg cb];refine ev_bind _ e2 ?_;simp only [if_pos (e3.1 cl)];exact h1
      ·rw [hsame];simp only [if_pos hall,if_neg cb];refine ev_bind _ e1 ?_;simp only [if_pos cl];exact h2
     ·obtain ⟨r,h1,h2,h3⟩:=ih best least (hb.keep cb (by show ltL (byLab n (labOf L (folI f n i))) least=false;rw [<-e4];exact Bool.eq_false_iff.2 fun q=>cl (e3.2 q))) hleast (fun h=>by omega);refine ⟨r,sgo r ?_,igo r c0 (hsort ?_),h3⟩
      ·simp only [if_pos c0,if_pos hok,if_neg cb];refine ev_bind _ e2 ?_;simp only [if_neg (fun h=>cl (e3.2 h))];exact h1
      ·rw [hsame];simp only [if_pos hall,if_neg cb];refine ev_bind _ e1 ?_;simp only [if_neg cl];exact h2
   ·have hall:¬ ((labOf L (folI f n i)).all fun y=>decide (0<y))=true:=by
     rw [List.all_eq_true];intro h;exact ck fun x hx=>of_decide_eq_true (h x hx)
    have hok:¬ (((byLab n (labOf L (folI f n i))).length:Int) == ((folI f n i).length:Int))=true:=by
     intro h;have h:(((byLab n (labOf L (folI f n i))).length:Int))=((folI f n i).length:Int):=by simpa using h
     exact ck (hbk.1 (by omega))
    obtain ⟨r,h1,h2,h3⟩:=ih best least (hb.skip fun _=>ck) hleast (fun h=>by
     obtain ⟨j,j1,j2,j3,j4⟩:=hex h;refine ⟨j,?_,j2,j3,j4⟩;rcases Nat.eq_or_lt_of_le j1 with e|e
     ·subst e;exact absurd j4 ck
     ·exact e)
    refine ⟨r,sgo r ?_,igo r c0 (hsort ?_),h3⟩
    ·simp only [if_pos c0,if_neg hok];exact h1
    ·simp only [if_neg hall];exact h2
  ·obtain ⟨r,h1,h2,h3⟩:=ih best least (hb.skip fun h=>absurd h c0) hleast (fun h=>by
    obtain ⟨j,j1,j2,j3,j4⟩:=hex h;refine ⟨j,?_,j2,j3,j4⟩;rcases Nat.eq_or_lt_of_le j1 with e|e
    ·subst e;exact absurd j3 c0
    ·exact e)
   refine ⟨r,sgo r ?_,ev_go _ (fun k=>?_) h2,h3⟩
   ·simp only [if_neg c0];exact h1
   ·simp only [impl_labelsOf.l2];rw [if_pos (by omega),if_pos (by omega),if_pos (by omega),if_pos (by omega),wr1 (by omega)]
theorem ready_ex {n:Nat} {f:BF} (hp:PreF n f) {L:List Int} (hv:∀ i:Nat,i<n->0<=rd L (i:Int)/\rd L (i:Int)<=(n:Int)):∀ (m i:Nat),cntF n f i<=m->i<n->rd L (i:Int)=0->∃ j,j<n/\rd L (j:Int)=0/\KnownB L f n j:=by
 intro m
 induction m with
 | zero=>
  intro i hm hi h0;refine ⟨i,hi,h0,fun x hx=>?_⟩;obtain ⟨y,hy,rfl⟩:=List.mem_map.1 hx;obtain ⟨q,h1,h2,rfl⟩:=folI_in f n i y hy;have:=cnt_lt hp hi h1 h2;omega
 | succ m ih=>
  intro i hm hi h0;by_cases hk:KnownB L f n i
  ·exact ⟨i,hi,h0,hk⟩
  ·obtain ⟨q,hq1,hq2,hq3⟩:∃ q,q<n/\f i q=true/\rd L (q:Int)=0:=Classical.byContradiction fun hn=>hk fun x hx=>by
    obtain ⟨y,hy,rfl⟩:=List.mem_map.1 hx;obtain ⟨q,h1,h2,rfl⟩:=folI_in f n i y hy;have:=hv q h1;have h3:rd L (q:Int)≠0:=fun e=>hn ⟨q,h1,h2,e⟩
    omega
   have:=cnt_lt hp hi hq1 hq2;exact ih q (by omega) hq1 hq3
def zerosF (L:List Int):Nat:=L.countP fun x=>decide (x=0)
theorem zeros_set {L:List Int} {b:Nat} (hb:b<L.length) (h0:L[b]=0) {v:Int} (hv:v≠0):zerosF (L.set b v) + 1=zerosF L:=by
 unfold zerosF;have e1:L=L.take b++L[b]::L.drop (b + 1):=by
  rw [<-List.drop_eq_getElem_cons hb,List.take_append_drop]
 have e2:L.set b v=L.take b++v::L.drop (b + 1):=by
  rw [List.set_eq_take_append_cons_drop,if_pos hb]
 rw [e2]
 conv=>rhs;rw [e1]
 rw [List.countP_append,List.countP_append,List.countP_cons_of_neg (by simpa using hv),List.countP_cons_of_pos (by simpa using h0)];omega
theorem rd_set' {l:List Int} {i j:Nat} (hi:i<l.length) (hj:j<l.length) (v:Int):rd (l.set i v) (j:Int)=if i=j then v else rd l (j:Int):=by
 rw [rd_nat (by rw [List.length_set];exact hj),rd_nat hj,List.getElem_set]
/-- labels as they stand when v is the next -/
structure LabSt (n:Nat) (f:BF) (v:Nat) (L:List Int):Prop where
 low:∀ i:Nat,i<n->0<=rd L (i:Int)/\rd L (i:Int)<(v:Int)
 inj:∀ i k:Nat,i<n->k<n->rd L (i:Int)=rd L (k:Int)->0<rd L (i:Int)->i=k
 all:∀ u:Nat,1<=u->u<v->∃ i:Nat,i<n/\rd L (i:Int)=(u:Int)
 fol:∀ i:Nat,i<n->0<rd L (i:Int)->∀ k:Nat,k<n->DF f n i k->0<rd L (k:Int)/\rd L (k:Int)<rd L (i:Int)
 lex:∀ x y:Nat,x<n->y<n->0<rd L (x:Int)->(rd L (y:Int)=0\/rd L (x:Int)<rd L (y:Int))->(∀ k:Nat,k<n->DF f n y k->0<rd L (k:Int)/\rd L (k:Int)<rd L (x:Int))->ltL (keyL f n L y) (keyL f n L x)=false
theorem LabSt.step {n:Nat} {f:BF} {v:Nat} {L:List Int} (h:LabSt n f v L) (hL:L.length=n) (hv:1<=v) {b:Nat} (hb:b<n) (h0:rd L (b:Int)=0) (hk:KnownB L f n b) (hl:∀ j:Nat,j<n->rd L (j:Int)=0->KnownB L f n j->ltL (keyL f n L j) (keyL f n L b)=false):LabSt n f (v + 1) (L.set b (v:Int)):=by
 have at_:∀ i:Nat,i<n->rd (L.set b (v:Int)) (i:Int)=if b=i then (v:Int) else rd L (i:Int):=fun i hi=>rd_set' (by omega) (by omega) _
 have nb:∀ i:Nat,0<rd L (i:Int)->b≠i:=fun i hi e=>by subst e;omega
 have hk':=known_iff.1 hk;generalize L.set b (v:Int)=L' at at_
 have same:∀ i:Nat,i<n->0<rd L (i:Int)->rd L' (i:Int)=rd L (i:Int):=fun i hi hp=>by rw [at_ i hi,if_neg (nb i hp)]
 have keyS:∀ y:Nat,(∀ k:Nat,k<n->DF f n y k->0<rd L (k:Int))->keyL f n L' y=keyL f n L y:=fun y hy=>keyL_congr fun k hk hd=>same k hk (hy k hk hd)
 have back:∀ x k:Nat,k<n->b≠x->x<n->0<rd L' (k:Int)/\rd L' (k:Int)<rd L' (x:Int)->0<rd L (k:Int)/\rd L (k:Int)<rd L (x:Int):=fun x k hkn hbx hx hq=>by
  rw [at_ k hkn,at_ x hx,if_neg hbx] at hq;have:=h.low x hx;by_cases e:b=k
  ·rw [if_pos e] at hq;omega
  ·rw [if_neg e] at hq;exact hq
 refine ⟨fun i hi=>?_,fun i k hi hkn he hp=>?_,fun u h1 h2=>?_,fun i hi hp k hkn hd=>?_,fun x y hx hy hp hc hr=>?_⟩
 ·rw [at_ i hi];have:=h.low i hi
  split <;> omega
 ·rw [at_ i hi,at_ k hkn] at he;rw [at_ i hi] at hp;have q1:=h.low i hi;have q2:=h.low k hkn;by_cases e1:b=i
  ·by_cases e2:b=k
   ·omega
   ·rw [if_pos e1,if_neg e2] at he;omega
  ·by_cases e2:b=k
   ·rw [if_neg e1,if_pos e2] at he;omega
   ·rw [if_neg e1,if_neg e2] at he;rw [if_neg e1] at hp;exact h.inj i k hi hkn he hp
 ·by_cases e:u=v
  ·exact ⟨b,hb,by rw [at_ b hb,if_pos rfl,e]⟩
  ·obtain ⟨i,hi,hq⟩:=h.all u h1 (by omega);exact ⟨i,hi,by rw [same i hi (by omega)];exact hq⟩
 ·by_cases e:b=i
  ·subst e;have q:=hk' k hkn hd;have q2:=h.low k hkn;rw [same k hkn q,at_ b hb,if_pos rfl];omega
  ·rw [at_ i hi,if_neg e] at hp ⊢;have q:=h.fol i hi hp k hkn hd;rw [same k hkn q.1];exact q
 ·by_cases e:b=x
  ·subst e;rw [at_ b hb,if_pos rfl] at hc;have hby:b≠y:=fun e2=>by subst e2;rw [at_ b hb,if_pos rfl] at hc;omega
   have q:=h.low y hy;rw [at_ y hy,if_neg hby] at hc;have hy0:rd L (y:Int)=0:=by omega
   have hyk:∀ k:Nat,k<n->DF f n y k->0<rd L (k:Int):=fun k hkn hd=>by
    have:=hr k hkn hd;rw [at_ k hkn,at_ b hb,if_pos rfl] at this;by_cases e2:b=k
    ·rw [if_pos e2] at this;omega
    ·rw [if_neg e2] at this;exact this.1
   rw [keyS y hyk,keyS b hk'];exact hl y hy hy0 (known_iff.2 hyk)
  ·have hp2:=hp;rw [at_ x hx,if_neg e] at hp2;have hr2:∀ k:Nat,k<n->DF f n y k->0<rd L (k:Int)/\rd L (k:Int)<rd L (x:Int):=fun k hkn hd=>back x k hkn e hx (hr k hkn hd)
   rw [keyS y fun k hkn hd=>(hr2 k hkn hd).1,keyS x fun k hkn hd=>(h.fol x hx hp2 k hkn hd).1];refine h.lex x y hx hy hp2 ?_ hr2;by_cases e2:b=y
   ·subst e2;exact .inl h0
   ·rw [at_ y hy,at_ x hx,if_neg e2,if_neg e] at hc;exact hc
theorem labels_both {n:Nat} {f:BF} (hn:n<=8) (hp:PreF n f) {F:List (List Int)} (hF:F.length=n) (hFr:∀ i:Nat,i<n->rd_L7 F (i:Int)=folI f n i):∀ (c:Nat) (v:Nat) (L:List Int),v + c=n + 1->1<=v->L.length=n->LabSt n f v L->zerosF L=c->∃ r,Ev (fun k=>spec_l7Labels.l0 k (n:Int) L (tbl n f) (v:Int)) r/\Ev (fun k=>impl_labelsOf.l1 k (n:Int) F L (v:Int)) r/\r.length=n/\LabSt n f (n + 1) r/\∀ i:Nat,i<n->0<rd r (i:Int)
 | 0,v,L,hc,_,hL,hI,hz=>by
  obtain rfl:v=n + 1:=by omega
  refine ⟨L,ev_stop fun k=>?_,ev_stop fun k=>?_,hL,hI,fun i hi=>?_⟩
  ·simp only [spec_l7Labels.l0];rw [if_neg (by omega)]
  ·simp only [impl_labelsOf.l1];rw [if_neg (by omega)]
  ·have h1:=hI.low i hi;have h2:=List.countP_eq_zero.1 hz _ (List.getElem_mem (show i<L.length by omega));rw [<-rd_nat (show i<L.length by omega),decide_eq_true_eq] at h2;omega
 | c + 1,v,L,hc,hv1,hL,hI,hz=>by
  have hv:∀ i:Nat,i<n->0<=rd L (i:Int)/\rd L (i:Int)<=(n:Int):=fun i hi=>by have:=hI.low i hi;omega
  have hex:∃ i:Nat,i<n/\rd L (i:Int)=0:=by
   have:0<L.countP fun x=>decide (x=0):=by unfold zerosF at hz;omega
   obtain ⟨x,hx,h0⟩:=List.countP_pos_iff.1 this;obtain ⟨i,hi,rfl⟩:=List.getElem_of_mem hx;exact ⟨i,by omega,by rw [rd_nat hi];simpa using h0⟩
  obtain ⟨i,hi,h0⟩:=hex;obtain ⟨j,hj,hj0,hjk⟩:=ready_ex hp hv (cntF n f i) i (Nat.le_refl _) hi h0;obtain ⟨r,h1,h2,h3⟩:=pick_both hn hF hFr hL hv (v:Int) (fun r=>r.length=n/\LabSt n f (n + 1) r/\∀ i:Nat,i<n->0<rd r (i:Int)) (fun b hb hb0 hbk hbl=>by
   have hbL:b<L.length:=by omega
   have hb00:L[b]=0:=by rw [<-rd_nat hbL];exact hb0
   have hzz:=zeros_set hbL hb00 (v:=(v:Int)) (by omega);rw [wr1 (by omega)];exact labels_both hn hp hF hFr c (v + 1) (L.set b (v:Int)) (by omega) (by omega) (by rw [List.length_set];exact hL) (hI.step hL hv1 hb hb0 hbk hbl) (by omega)) 0 (Nat.zero_le _) (-1) [] (.inl ⟨rfl,fun j hj=>by omega⟩) (by simp) (fun _=>⟨j,Nat.zero_le _,hj,hj0,hjk⟩)
  refine ⟨r,ev_go _ (fun k=>?_) h1,ev_go _ (fun k=>?_) h2,h3⟩
  ·simp only [spec_l7Labels.l0];rw [if_pos (by omega)];rfl
  ·simp only [impl_labelsOf.l1];rw [if_pos (by omega),hL];rfl
theorem impl_labels_l0 {n:Nat} (hn:n<=8) {L:List A2} (hin:∀ p ∈ L,0<=p.f0/\p.f0<(n:Int)) (hlen:L.length<=100000) (R:List Int):∀ i,i<=L.length->∀ F:List (List Int),F.length=n->(∀ y ∈ F,y.length<=i)->Ev (fun k=>impl_labelsOf.l1 k (n:Int) (addP F (L.drop i)) (List.replicate n 0) 1) R->Ev (fun k=>impl_labelsOf.l0 k (n:Int) F L (L.length:Int) (i:Int)) R:=by
 refine rev_ind L.length (fun F hF _ h=>?_) (fun i hi ih F hF hrow h=>?_)
 ·rw [List.drop_length,addP] at h;refine ev_go _ (fun k=>?_) h;simp only [impl_labelsOf.l0];rw [if_neg (by omega),if_pos (by omega),if_pos (by omega),Int.toNat_natCast]
 ·have hp:=hin _ (List.getElem_mem hi);have hr:rd_T42 L (i:Int)=L[i]:=rdA2 hi;rw [drop_cons hi,addP] at h;have hrl:(rd_L7 F L[i].f0).length<=i:=by
   have h1:L[i].f0.toNat<F.length:=by omega
   have:rd_L7 F L[i].f0=F[L[i].f0.toNat]:=by simp [rd_L7,h1]
   rw [this];exact hrow _ (List.getElem_mem h1)
  refine ev_go _ (fun k=>?_) (ih (F.set L[i].f0.toNat (rd_L7 F L[i].f0++[L[i].f1])) (by rw [List.length_set];exact hF) (fun y hy=>?_) h)
  ·simp only [impl_labelsOf.l0];rw [hr,if_pos (by omega),if_pos (by omega),if_pos (by omega),if_pos hp.1,if_pos (by omega),if_pos (by omega),wr1 (by omega)]
  ·rcases List.mem_or_eq_of_mem_set hy with hy|rfl
   ·have:=hrow y hy;omega
   ·simp;omega
theorem LabSt.start (n:Nat) (f:BF):LabSt n f 1 (List.replicate n 0):=by
 have z:∀ i:Nat,i<n->rd (List.replicate n (0:Int)) (i:Int)=0:=fun i hi=>by rw [rd_nat (by simpa using hi)];simp
 exact ⟨fun i hi=>by rw [z i hi];omega,fun i k hi _ _ h=>by rw [z i hi] at h;omega,fun u h1 h2=>by omega,fun i hi h=>by rw [z i hi] at h;omega,fun x y hx _ h=>by rw [z x hx] at h;omega⟩
/-- the labels, by both -/
theorem labels_ev {m:Nat} {E:List A2} (h:PrecOk (m:Int) E):∃ r,Ev (fun k=>spec_l7Labels.f k (m:Int) E) r/\Ev (fun k=>impl_labelsOf.f k (m:Int) E) r/\r.length=m/\LabSt m (cloF m E) (m + 1) r/\∀ i:Nat,i<m->0<rd r (i:Int):=by
 have h8:=h.1.1;have hin:EdgIn m E:=PairsOk.edg h.1.2.2;have hd:DiagOk m (cloF m E):=by have:=h.2;rwa [Int.toNat_natCast] at this
 have hp:=preF_of hd;have hn:m<=8:=by omega
 have h28:=h.1.2.1;have ht:=spec_l4Table.ev m E hn (by omega) hin;have hc:=impl_closure.ev m E hn (by omega) hin;have hred:=impl_reduction.ev (n:=m) (f:=cloF m E) (by omega);obtain ⟨F,hFe⟩:∃ F,F=addP (List.replicate m []) (redL (cloF m E) m (pis (cloF m E) m m 0)):=⟨_,rfl⟩;have hF:F.length=m:=by rw [hFe,addP_len,List.length_replicate]
 have hFr:∀ i:Nat,i<m->rd_L7 F (i:Int)=folI (cloF m E) m i:=fun i hi=>by rw [hFe];exact fol_rows _ _ hi
 obtain ⟨r,l1,l2,l3,l4⟩:=labels_both hn hp hF hFr m 1 (List.replicate m 0) (by omega) (by omega) (by simp) (LabSt.start m _) (by unfold zerosF;rw [List.countP_eq_length.2 (fun x hx=>by rw [List.mem_replicate] at hx;simp [hx.2]),List.length_replicate]);have hredL:(redL (cloF m E) m (pis (cloF m E) m m 0)).length<=100000:=by
  have h1:=List.length_filter_le (fun p:A2=>dirR (cloF m E) p.f0.toNat p.f1.toNat m 0 true) (pis (cloF m E) m m 0);have h2:=pis_len (cloF m E) m m 0;have h3:m * m<=8 * 8:=Nat.mul_le_mul hn hn;unfold redL;omega
 refine ⟨r,?_,?_,l3,l4⟩
 ·unfold spec_l7Labels.f;simp only [if_pos (show 0<=(m:Int) by omega),Int.toNat_natCast,if_pos (show m<=35184372088832 by omega)];exact ev_bind _ ht l1
 ·unfold impl_labelsOf.f;simp only [if_pos (show 0<=(m:Int) by omega),Int.toNat_natCast,if_pos (show m<=11728124029610 by omega)];refine ev_bind _ hc (ev_bind _ hred ?_);refine impl_labels_l0 hn (fun p hp=>?_) hredL r 0 (Nat.zero_le _) _ (by simp) (fun y hy=>by rw [List.mem_replicate] at hy;rw [hy.2];simp) ?_
  ·obtain ⟨a,b,h1,_,_,_,e⟩:=redL_mem.1 hp;subst e;simp;omega
  ·rw [List.drop_zero,<-hFe];exact l2
theorem spec_l7Units.ev (n:Nat) (hn:n<=1000):Ev (fun k=>spec_l7Units.f k (n:Int)) (List.replicate n oneJ):=by
 have main:∀ (c i:Nat) (acc:List J),i + c=n->acc.length=i->Ev (fun k=>spec_l7Units.l0 k (n:Int) acc (i:Int)) (acc++List.replicate c oneJ):=by
  intro c
  induction c with
  | zero=>
   intro i acc hi _;rw [List.replicate_zero,List.append_nil];refine ev_stop fun k=>?_
   simp only [spec_l7Units.l0];rw [if_neg (by omega)]
  | succ c ih=>
   intro i acc hi hl;rw [List.replicate_succ,<-List.singleton_append,<-List.append_assoc];refine ev_go _ (fun k=>?_) (ih (i + 1) (acc++[oneJ]) (by omega) (by simp;omega));simp only [spec_l7Units.l0];rw [if_pos (by omega),if_pos (by omega),wr1 (by omega)];rfl
 have:=main n 0 [] (by omega) rfl;unfold spec_l7Units.f
 simpa using this
theorem wf_small {n:Int} (h : -1000<=n/\n<=1000):(Lit.int .i64 n).wf=true:=by
 simp [Lit.wf,IntKind.min,IntKind.max,IntKind.signed,IntKind.bits];omega
theorem units_ok {m:Nat} (hm:m<=8):JobsOk (List.replicate m oneJ):=⟨by simp;omega,fun j hj=>by
 rw [List.mem_replicate] at hj;rw [hj.2];unfold oneJ JobOk;simp⟩
theorem LP_ok {m:Nat} {E:List A2} (hE:E.length<=1048576) (h:PrecOk (m:Int) E) {r:List Int} (l1:Ev (fun k=>spec_l7Labels.f k (m:Int) E) r) (l2:Ev (fun k=>impl_labelsOf.f k (m:Int) E) r) (l3:r.length=m) {pl:List PTask} (p2:Ev (fun k=>impl_listPlan.f k (List.replicate m oneJ) 2 E (sortN (fallLt r) m)) pl) (p3:Ev (fun k=>spec_l7List.f k (List.replicate m oneJ) 2 E (sortN (fallLt r) m)) pl):Ev (fun k=>spec_LabelPlan.f k (m:Int) E) (pl,true)/\Ev (fun k=>impl_LabelPlan.f k (m:Int) E) (pl,true):=by
 unfold spec_LabelPlan.f impl_LabelPlan.f;have h8:=h.1.1;have hf:=spec_l7Falling.ev r (by omega);rw [l3] at hf;refine ⟨ev_guard' (spec_l4Good.ev (m:Int) E (wf_small (by omega)) (by omega)) (fun _=>ev_bind _ (spec_l7Units.ev m (by omega)) (ev_bind _ l1 (ev_bind _ hf (ev_bind _ p3 (Ev.now _))))) (fun hn=>absurd h hn),ev_guard' (impl_IsPrecedence.ev (m:Int) E (by omega)) (fun _=>?_) (fun hn=>absurd h hn)⟩;simp only [if_pos (show 0<=(m:Int)/\(m:Int)<=1048576 by omega)];refine ev_bind _ l2 (ev_bind _ (impl_numbersTo.ev m (by omega)) ?_);have hg:(nums_to m).length<=1048576/\∀ x ∈ nums_to m,0<=x/\x<(r.length:Int):=⟨by rw [nums_to_length];omega,fun x hx=>by rw [l3];exact mem_nums_to.1 hx⟩;simp only [if_pos hg];rw [Int.toNat_natCast];exact ev_bind _ p2 (Ev.now _)
theorem LP_no {n:Int} {E:List A2} (hw:(Lit.int .i64 n).wf=true) (hE:E.length<=1048576) (h:¬ PrecOk n E):Ev (fun k=>spec_LabelPlan.f k n E) ([],false)/\Ev (fun k=>impl_LabelPlan.f k n E) ([],false):=by
 unfold spec_LabelPlan.f impl_LabelPlan.f;exact ⟨ev_guard' (spec_l4Good.ev n E hw (by omega)) (fun h1=>absurd h1 h) (fun _=>Ev.now _),ev_guard' (impl_IsPrecedence.ev n E (by omega)) (fun h1=>absurd h1 h) (fun _=>Ev.now _)⟩
theorem cnt_inj (g:Nat->Nat):∀ (l s:List Nat),l.Nodup->(∀ x ∈ l,g x ∈ s)->(∀ x ∈ l,∀ y ∈ l,g x=g y->x=y)->l.length<=s.length:=by
 intro l
 induction l with
 | nil=>intro s _ _ _;simp
 | cons a l ih=>
  intro s hn hm hi;have hn':=List.nodup_cons.1 hn;have ha:=hm a List.mem_cons_self;have:=ih (s.erase (g a)) hn'.2 (fun x hx=>by
   have hne:g x≠g a:=fun e=>by
    have:=hi x (List.mem_cons_of_mem _ hx) a List.mem_cons_self e;subst this;exact hn'.1 hx
   exact (List.mem_erase_of_ne hne).2 (hm x (List.mem_cons_of_mem _ hx))) (fun x hx y hy=>hi x (List.mem_cons_of_mem _ hx) y (List.mem_cons_of_mem _ hy))
  rw [List.length_erase_of_mem ha] at this;have hp:0<s.length:=List.length_pos_of_mem ha;simp only [List.length_cons];omega
/-- jobs below n with a mark -/
def selN (n:Nat) (q:Nat->Bool):List Nat:=(List.range n).filter q
theorem selN_nodup (n:Nat) (q:Nat->Bool):(selN n q).Nodup:=List.Pairwise.filter _ List.nodup_range
theorem mem_selN {n:Nat} {q:Nat->Bool} {x:Nat} : x ∈ selN n q ↔ x<n/\q x=true:=by simp [selN]
theorem selN_sub {n:Nat} {q r:Nat->Bool} (h:∀ x,x<n->q x=true->r x=true):(selN n q).length<=(selN n r).length:=
 cnt_inj id _ _ (selN_nodup n q) (fun x hx=>by have:=mem_selN.1 hx;exact mem_selN.2 ⟨this.1,h x this.1 this.2⟩) (fun _ _ _ _ e=>e)
theorem selN_or {n:Nat} {q r s:Nat->Bool} (h:∀ x,x<n->q x=true->r x=true\/s x=true):(selN n q).length<=(selN n r).length + (selN n s).length:=by
 rw [<-List.length_append];refine cnt_inj id _ _ (selN_nodup n q) (fun x hx=>?_) (fun _ _ _ _ e=>e);have:=mem_selN.1 hx;rw [List.mem_append];rcases h x this.1 this.2 with h|h
 ·exact .inl (mem_selN.2 ⟨this.1,h⟩)
 ·exact .inr (mem_selN.2 ⟨this.1,h⟩)
theorem selN_add {n:Nat} {q r s:Nat->Bool} (h:∀ x,x<n->(r x=true->q x=true)/\(s x=true->q x=true/\r x=false)):(selN n r).length + (selN n s).length<=(selN n q).length:=by
 have e:(selN n q).length=((selN n q).filter r).length + ((selN n q).filter (fun x=> !r x)).length:=by
  rw [<-List.countP_eq_length_filter,<-List.countP_eq_length_filter];have:=List.length_eq_countP_add_countP r (l:=selN n q)
  simpa using this
 rw [e];refine Nat.add_le_add ?_ ?_
 ·refine cnt_inj id _ _ (selN_nodup n r) (fun x hx=>?_) (fun _ _ _ _ e=>e);have:=mem_selN.1 hx;exact List.mem_filter.2 ⟨mem_selN.2 ⟨this.1,(h x this.1).1 this.2⟩,this.2⟩
 ·refine cnt_inj id _ _ (selN_nodup n s) (fun x hx=>?_) (fun _ _ _ _ e=>e);have:=mem_selN.1 hx;have h2:=(h x this.1).2 this.2;exact List.mem_filter.2 ⟨mem_selN.2 ⟨this.1,h2.1⟩,by simp [h2.2]⟩
/-- at most m jobs a slot: those ahead of slot t are m t at most -/
theorem slots_le {n m:Nat} {S:Nat->Nat} (q:Nat->Bool) (hm:∀ t,(selN n fun x=>q x && decide (S x=t)).length<=m):∀ t,(selN n fun x=>q x && decide (S x<t)).length<=m * t
 | 0=>by
  have:(selN n fun x=>q x && decide (S x<0))=[]:=by simp [selN]
  rw [this];simp
 | t + 1=>by
  have ih:=slots_le q hm t;have h1:=hm t;have:=selN_or (n:=n) (q:=fun x=>q x && decide (S x<t + 1)) (r:=fun x=>q x && decide (S x<t)) (s:=fun x=>q x && decide (S x=t)) (fun x _ h=>by
   simp only [Bool.and_eq_true,decide_eq_true_eq] at h ⊢;by_cases e:S x=t
   ·exact .inr ⟨h.1,e⟩
   ·exact .inl ⟨h.1,by omega⟩)
  rw [Nat.mul_add];omega
/-- at least m jobs a slot -/
theorem slots_ge {n m:Nat} {S:Nat->Nat} (q:Nat->Bool) (s0:Nat):∀ d,(∀ t,s0<=t->t<s0 + d->m<=(selN n fun x=>q x && decide (S x=t)).length)->m * d<=(selN n fun x=>q x && (decide (s0<=S x) && decide (S x<s0 + d))).length
 | 0,_=>by simp
 | d + 1,h=>by
  have ih:=slots_ge q s0 d (fun t h1 h2=>h t h1 (by omega));have h1:=h (s0 + d) (by omega) (by omega);have:=selN_add (n:=n) (q:=fun x=>q x && (decide (s0<=S x) && decide (S x<s0 + (d + 1)))) (r:=fun x=>q x && (decide (s0<=S x) && decide (S x<s0 + d))) (s:=fun x=>q x && decide (S x=s0 + d)) (fun x _=>by
   simp only [Bool.and_eq_true,decide_eq_true_eq,Bool.and_eq_false_iff,decide_eq_false_iff_not];constructor
   ·rintro ⟨h1,h2,h3⟩;exact ⟨h1,h2,by omega⟩
   ·rintro ⟨h1,h2⟩;exact ⟨⟨h1,by omega,by omega⟩,.inr (.inr (by omega))⟩)
  rw [Nat.mul_add];omega
/-- No plan is shorter than that by levels, where each job has one follower at most. -/
theorem hu_bound {n m:Nat} {f:Nat->Nat->Bool} {lev S S':Nat->Nat} {T:Nat}
  (hlev:∀ i k,i<n->k<n->f i k=true->lev k<lev i)
  (hone:∀ i y y',i<n->y<n->y'<n->f i y=true->f i y'=true->(∀ z,z<n->f i z=true->f z y=true->False)->(∀ z,z<n->f i z=true->f z y'=true->False)->y=y')
  (hS:∀ i k,i<n->k<n->f i k=true->S i<S k)
  (hfull:∀ y u,y<n->u<S y->(∀ k,k<n->f k y=true->S k<u)->m<=(selN n fun z=>decide (lev y<=lev z) && decide (S z=u)).length)
  (hT:∀ i,i<n->S' i + lev i<=T)
  (hm':∀ t,(selN n fun x=>true && decide (S' x=t)).length<=m) :
  ∀ t x,x<n->t<=S x->t + lev x<=T:=by
 intro t
 induction t using Nat.strongRecOn with
 | _ t IH=>
 intro x hx hxt;by_cases A:∀ r,0<=r->r<0 + t->m<=(selN n fun z=>decide (lev x<=lev z) && decide (S z=r)).length
 ·have h1:=slots_ge (S:=S) (fun z=>decide (lev x<=lev z)) 0 t A;have h2:=slots_le (S:=S') (fun _=>true) hm' (T + 1 - lev x);have hxT:=hT x hx;have h3:=selN_add (n:=n) (q:=fun z=>true && decide (S' z<T + 1 - lev x)) (r:=fun z=>decide (lev x<=lev z) && (decide (0<=S z) && decide (S z<0 + t))) (s:=fun z=>decide (z=x)) (fun z hz=>by
   simp only [Bool.and_eq_true,decide_eq_true_eq,Bool.and_eq_false_iff,decide_eq_false_iff_not,Bool.true_and];have:=hT z hz;constructor
   ·rintro ⟨h1,h2,h3⟩;omega
   ·rintro rfl;exact ⟨by omega,.inr (.inr (by omega))⟩)
  have h4:1<=(selN n fun z=>decide (z=x)).length:=List.length_pos_of_mem (mem_selN.2 ⟨hx,by simp⟩);have h5:m * t<m * (T + 1 - lev x):=by omega
  have:=Nat.lt_of_mul_lt_mul_left h5;omega
 ·have ⟨r,hr⟩:=Classical.not_forall.1 A;have ⟨_,hr⟩:=Classical.not_forall.1 hr;have ⟨hrt,hr⟩:=Classical.not_forall.1 hr;have few:∀ d,r + d<t->(selN n fun z=>decide (lev x<=lev z) && decide (S z=r + d)).length<m:=by
   intro d
   induction d with
   | zero=>intro _;simpa using hr
   | succ d ih=>
    intro hd;have h0:=ih (by omega);refine Nat.lt_of_le_of_lt ?_ h0;have pr:∀ y ∈ selN n fun z=>decide (lev x<=lev z) && decide (S z=r + (d + 1)),∃ p,p<n/\f p y=true/\S p=r + d:=by
     intro y hy;have ⟨hyn,hy2⟩:=mem_selN.1 hy;simp only [Bool.and_eq_true,decide_eq_true_eq] at hy2;refine Classical.byContradiction fun hc=>?_
     have hready:∀ k,k<n->f k y=true->S k<r + d:=fun k hk hf=>by
      have h1:=hS k y hk hyn hf;refine Classical.byContradiction fun h2=>hc ⟨k,hk,hf,by omega⟩
     have:=hfull y (r + d) hyn (by omega) hready;have h6:=selN_sub (n:=n) (q:=fun z=>decide (lev y<=lev z) && decide (S z=r + d)) (r:=fun z=>decide (lev x<=lev z) && decide (S z=r + d)) (fun z _ hz=>by
      simp only [Bool.and_eq_true,decide_eq_true_eq] at hz ⊢;omega)
     omega
    refine cnt_inj (fun y=>if h:∃ p,p<n/\f p y=true/\S p=r + d then Classical.choose h else 0) _ _ (selN_nodup n _) (fun y hy=>?_) (fun y hy y' hy' e=>?_)
    ·have hp:=pr y hy;simp only [dif_pos hp];have hs:=Classical.choose_spec hp;have ⟨hyn,hy2⟩:=mem_selN.1 hy;simp only [Bool.and_eq_true,decide_eq_true_eq] at hy2;have:=hlev _ _ hs.1 hyn hs.2.1;refine mem_selN.2 ⟨hs.1,?_⟩;simp only [Bool.and_eq_true,decide_eq_true_eq];exact ⟨by omega,hs.2.2⟩
    ·have hp:=pr y hy;have hp':=pr y' hy';simp only [dif_pos hp,dif_pos hp'] at e;have hs:=Classical.choose_spec hp;have hs':=Classical.choose_spec hp';rw [<-e] at hs';have ⟨hyn,hy2⟩:=mem_selN.1 hy;have ⟨hyn',hy2'⟩:=mem_selN.1 hy';simp only [Bool.and_eq_true,decide_eq_true_eq] at hy2 hy2';refine hone _ y y' hs.1 hyn hyn' hs.2.1 hs'.2.1 (fun z hz h1 h2=>?_) (fun z hz h1 h2=>?_)
     ·have:=hS _ _ hs.1 hz h1;have:=hS _ _ hz hyn h2;omega
     ·have:=hS _ _ hs.1 hz h1;have:=hS _ _ hz hyn' h2;omega
  have up:∀ d,d<=t - r->∃ y,y<n/\t - d<=S y/\lev x + d<=lev y:=by
   intro d
   induction d with
   | zero=>intro _;exact ⟨x,hx,by omega,by omega⟩
   | succ d ih=>
    intro hd;obtain ⟨y,hy,h1,h2⟩:=ih (by omega);refine Classical.byContradiction fun hc=>?_
    have hready:∀ k,k<n->f k y=true->S k<t - (d + 1):=fun k hk hf=>by
     have h3:=hlev k y hk hy hf;refine Classical.byContradiction fun h4=>hc ⟨k,hk,by omega,by omega⟩
    have h5:=hfull y (t - (d + 1)) hy (by omega) hready;have h6:=selN_sub (n:=n) (q:=fun z=>decide (lev y<=lev z) && decide (S z=t - (d + 1))) (r:=fun z=>decide (lev x<=lev z) && decide (S z=t - (d + 1))) (fun z _ hz=>by
     simp only [Bool.and_eq_true,decide_eq_true_eq] at hz ⊢;omega)
    have h7:=few (t - (d + 1) - r) (by omega);rw [show r + (t - (d + 1) - r)=t - (d + 1) by omega] at h7;omega
  obtain ⟨y,hy,h1,h2⟩:=up (t - r) (Nat.le_refl _);have:=IH r (by omega) y hy (by omega);omega
theorem cap_pick {n:Nat} {q:Nat->Bool} {lo hi:Nat} (S':Nat->Nat) (hc:∀ t,(selN n fun x=>true && decide (S' x=t)).length<=2) (hlo:∀ x,x<n->q x=true->lo<=S' x) (hq:2 * (hi - lo)<(selN n q).length):∃ x,x<n/\q x=true/\hi<=S' x:=by
 refine Classical.byContradiction fun hno=>?_
 have hb:∀ x,x<n->q x=true->S' x<hi:=fun x hx h=>by
  refine Classical.byContradiction fun h2=>hno ⟨x,hx,h,by omega⟩
 have h0:∀ t,(selN n fun x=>q x && decide (S' x - lo=t)).length<=2:=fun t=>by
  have h1:=hc (lo + t);have h2:=selN_sub (n:=n) (q:=fun x=>q x && decide (S' x - lo=t)) (r:=fun x=>true && decide (S' x=lo + t)) (fun x hx h=>by
   simp only [Bool.and_eq_true,decide_eq_true_eq,Bool.true_and] at h ⊢;have:=hlo x hx h.1;omega)
  omega
 have h1:=slots_le (S:=fun x=>S' x - lo) q h0 (hi - lo);have h2:=selN_sub (n:=n) (q:=q) (r:=fun x=>q x && decide (S' x - lo<hi - lo)) (fun x hx h=>by
  simp only [Bool.and_eq_true,decide_eq_true_eq];have:=hlo x hx h;have:=hb x hx h;exact ⟨h,by omega⟩)
 omega
theorem two_of {n:Nat} {q:Nat->Bool} (h:2<=(selN n q).length):∃ a b,a<n/\b<n/\a≠b/\q a=true/\q b=true:=by
 have hn:=selN_nodup n q;have hm:∀ x ∈ selN n q,x<n/\q x=true:=fun x hx=>mem_selN.1 hx
 match hl:selN n q with
 | []=>rw [hl] at h;simp at h
 | [a]=>rw [hl] at h;simp at h
 | a::b::l=>
  rw [hl] at hn hm;have ha:=hm a List.mem_cons_self;have hb:=hm b (List.mem_cons_of_mem _ List.mem_cons_self);have hne:a≠b:=fun e=>(List.nodup_cons.1 hn).1 (by rw [e];exact List.mem_cons_self)
  exact ⟨a,b,ha.1,hb.1,hne,ha.2,hb.2⟩
theorem three_lt {n:Nat} {q:Nat->Bool} (h:(selN n q).length<=2) {a b c:Nat} (ha:a<n/\q a=true) (hb:b<n/\q b=true) (hc:c<n/\q c=true) (h1:a≠b) (h2:c≠a) (h3:c≠b):False:=by
 have:=cnt_inj id [a,b,c] (selN n q) (by simp [h1,h2.symm,h3.symm]) (fun x hx=>by
  simp at hx;rcases hx with rfl|rfl|rfl
  ·exact mem_selN.2 ha
  ·exact mem_selN.2 hb
  ·exact mem_selN.2 hc) (fun _ _ _ _ e=>e)
 simp at this;omega
theorem max_ex {n:Nat} (lab:Nat->Nat) (q:Nat->Prop) (B:Nat) (hB:∀ x,x<n->q x->lab x<=B) (x:Nat) (hx:x<n) (hq:q x):∃ y,y<n/\q y/\∀ z,z<n->q z->lab z<=lab y:=by
 have key:∀ d x,x<n->q x->B - lab x<=d->∃ y,y<n/\q y/\∀ z,z<n->q z->lab z<=lab y:=by
  intro d
  induction d with
  | zero=>intro x hx hq h;exact ⟨x,hx,hq,fun z hz hqz=>by have:=hB z hz hqz;have:=hB x hx hq;omega⟩
  | succ d ih=>
   intro x hx hq h;by_cases c:∃ z,z<n/\q z/\lab x<lab z
   ·obtain ⟨z,hz,hqz,hl⟩:=c;have:=hB z hz hqz;exact ih z hz hqz (by omega)
   ·exact ⟨x,hx,hq,fun z hz hqz=>by refine Classical.byContradiction fun h2=>c ⟨z,hz,hqz,by omega⟩⟩
 exact key _ x hx hq (Nat.le_refl _)
/-- No plan on two machines is shorter than that by labels. -/
theorem cg_bound {n:Nat} {f:Nat->Nat->Bool} {lab S S':Nat->Nat}
  (hlab:∀ i k,i<n->k<n->f i k=true->lab k<lab i)
  (hinj:∀ i k,i<n->k<n->lab i=lab k->i=k)
  (htr:∀ i k j,i<n->k<n->j<n->f i k=true->f k j=true->f i j=true)
  (hlex:∀ x y k,x<n->y<n->k<n->lab x<lab y->f x k=true->(∀ z,z<n->f x z=true->f z k=true->False)->¬ (f y k=true/\(∀ z,z<n->f y z=true->f z k=true->False))->
   ∃ k',k'<n/\f y k'=true/\(∀ z,z<n->f y z=true->f z k'=true->False)/\¬ (f x k'=true/\(∀ z,z<n->f x z=true->f z k'=true->False))/\lab k<lab k')
  (hS:∀ i k,i<n->k<n->f i k=true->S i<S k)
  (hcap:∀ t,(selN n fun x=>decide (S x=t)).length<=2)
  (hfull:∀ y u,y<n->u<S y->(∀ k,k<n->f k y=true->S k<u)->2<=(selN n fun z=>decide (lab y<lab z) && decide (S z=u)).length)
  (hS':∀ i k,i<n->k<n->f i k=true->S' i<S' k)
  (hcap':∀ t,(selN n fun x=>true && decide (S' x=t)).length<=2) :
  ∀ t D,D<n->S D=t->(∀ z,z<n->S z=t->lab z<=lab D)->∃ s0,s0<=t/\(∀ X,X<n->s0<=S X->S X<t->lab D<lab X)/\∃ X,X<n/\(X=D\/(s0<=S X/\S X<t))/\t<=S' X:=by
 have lift:∀ u y,y<n->u<=S y->∃ y0,y0<n/\lab y<=lab y0/\u<=S y0/\(y0=y\/f y0 y=true)/\∀ k,k<n->f k y0=true->S k<u:=by
  intro u y hy hu;obtain ⟨B,hB⟩:∃ B,∀ x,x<n->lab x<=B:=by
   have:∀ k,∃ B,∀ x,x<k->lab x<=B:=by
    intro k
    induction k with
    | zero=>exact ⟨0,fun x hx=>absurd hx (by omega)⟩
    | succ k ih=>
     obtain ⟨B,h⟩:=ih;refine ⟨B + lab k,fun x hx=>?_⟩;by_cases e:x=k
     ·subst e;omega
     ·have:=h x (by omega);omega
   exact this n
  obtain ⟨y0,h0,⟨h1,h2,h3⟩,h4⟩:=max_ex lab (fun z=>lab y<=lab z/\u<=S z/\(z=y\/f z y=true)) B (fun x hx _=>hB x hx) y hy ⟨Nat.le_refl _,hu,.inl rfl⟩;refine ⟨y0,h0,h1,h2,h3,fun k hk hf=>?_⟩;refine Classical.byContradiction fun hc=>?_
  have h5:=hlab k y0 hk h0 hf;have:=h4 k hk ⟨by omega,by omega,.inr (by
   rcases h3 with rfl|h3
   ·exact hf
   ·exact htr k y0 y hk h0 hy hf h3)⟩
  omega
 intro t
 induction t using Nat.strongRecOn with
 | _ t IH=>
 intro D hD hDt htop
  -- later jobs have lesser labels
 have F2:∀ Z,Z<n->t<=S Z->Z≠D->lab Z<lab D:=by
  intro Z hZ hZt hne;have hle:lab Z<=lab D:=by
   obtain ⟨y0,h0,h1,h2,h3,h4⟩:=lift t Z hZ hZt;by_cases e:S y0=t
   ·have:=htop y0 h0 e;omega
   ·have h5:=hfull y0 t h0 (by omega) h4;obtain ⟨a,b,ha,hb,hab,qa,qb⟩:=two_of h5;simp only [Bool.and_eq_true,decide_eq_true_eq] at qa;have:=htop a ha qa.2;omega
  have:lab Z≠lab D:=fun e=>hne (hinj Z D hZ hD e)
  omega
 have one:1<=(selN n fun z=>decide (z=D)).length:=List.length_pos_of_mem (mem_selN.2 ⟨hD,by simp⟩)
  -- the number of jobs in a block
 have many:∀ s0,s0<=t->(∀ r,s0<=r->r<s0 + (t - s0)->2<=(selN n fun z=>decide (lab D<lab z) && decide (S z=r)).length)->2 * (t - s0)<(selN n fun z=>decide (z=D) || (decide (s0<=S z) && decide (S z<t))).length:=by
  intro s0 hs0 h;have h1:=slots_ge (S:=S) (fun z=>decide (lab D<lab z)) s0 (t - s0) h;have h2:=selN_add (n:=n) (q:=fun z=>decide (z=D) || (decide (s0<=S z) && decide (S z<t))) (r:=fun z=>decide (lab D<lab z) && (decide (s0<=S z) && decide (S z<s0 + (t - s0)))) (s:=fun z=>decide (z=D)) (fun z hz=>by
   simp only [Bool.and_eq_true,decide_eq_true_eq,Bool.and_eq_false_iff,decide_eq_false_iff_not,Bool.or_eq_true];constructor
   ·rintro ⟨h1,h2,h3⟩;exact .inr ⟨h2,by omega⟩
   ·rintro rfl;exact ⟨.inl rfl,.inl (by omega)⟩)
  omega
 by_cases A:∀ r,0<=r->r<0 + (t - 0)->2<=(selN n fun z=>decide (lab D<lab z) && decide (S z=r)).length
 ·refine ⟨0,Nat.zero_le _,fun X hX _ hXt=>?_,?_⟩
  ·obtain ⟨a,b,ha,hb,hab,qa,qb⟩:=two_of (A (S X) (Nat.zero_le _) (by omega));simp only [Bool.and_eq_true,decide_eq_true_eq] at qa qb;by_cases ea:X=a
   ·rw [ea];exact qa.1
   ·by_cases eb:X=b
    ·rw [eb];exact qb.1
    ·exact (three_lt (hcap (S X)) ⟨ha,by simpa using qa.2⟩ ⟨hb,by simpa using qb.2⟩ ⟨hX,by simp⟩ hab ea eb).elim
  ·obtain ⟨X,hX,h1,h2⟩:=cap_pick (lo:=0) (hi:=t) S' hcap' (fun _ _ _=>Nat.zero_le _) (many 0 (Nat.zero_le _) A);simp only [Bool.or_eq_true,Bool.and_eq_true,decide_eq_true_eq] at h1;exact ⟨X,hX,h1,h2⟩
 · -- the last slot that isn't full of greater labels
  have last:∀ d,(∃ r,r<d/\d<=t/\¬ 2<=(selN n fun z=>decide (lab D<lab z) && decide (S z=r)).length)->∃ u,u<d/\¬ 2<=(selN n fun z=>decide (lab D<lab z) && decide (S z=u)).length/\∀ r,u<r->r<d->2<=(selN n fun z=>decide (lab D<lab z) && decide (S z=r)).length:=by
   intro d
   induction d with
   | zero=>rintro ⟨r,h,_⟩;omega
   | succ d ih=>
    rintro ⟨r,h1,h2,h3⟩;by_cases c:2<=(selN n fun z=>decide (lab D<lab z) && decide (S z=d)).length
    ·have hrd:r≠d:=fun e=>h3 (e ▸ c)
     obtain ⟨u,k1,k2,k3⟩:=ih ⟨r,by omega,by omega,h3⟩;exact ⟨u,by omega,k2,fun r' q1 q2=>by
      by_cases e:r'=d
      ·rw [e];exact c
      ·exact k3 r' q1 (by omega)⟩
    ·exact ⟨d,by omega,c,fun r' q1 q2=>by omega⟩
  have hex:∃ r,r<t/\t<=t/\¬ 2<=(selN n fun z=>decide (lab D<lab z) && decide (S z=r)).length:=by
   refine Classical.byContradiction fun hc=>A fun r _ hr=>?_
   refine Classical.byContradiction fun h2=>hc ⟨r,by omega,Nat.le_refl _,h2⟩
  obtain ⟨u,hut,hu,huf⟩:=last t hex;have F1:∀ X,X<n->u<S X->S X<t->lab D<lab X:=by
   intro X hX h1 h2;obtain ⟨a,b,ha,hb,hab,qa,qb⟩:=two_of (huf (S X) h1 h2);simp only [Bool.and_eq_true,decide_eq_true_eq] at qa qb;by_cases ea:X=a
   ·rw [ea];exact qa.1
   ·by_cases eb:X=b
    ·rw [eb];exact qb.1
    ·exact (three_lt (hcap (S X)) ⟨ha,by simpa using qa.2⟩ ⟨hb,by simpa using qb.2⟩ ⟨hX,by simp⟩ hab ea eb).elim
    -- at u, no job with a label not below D's is ready that starts later
  have notR:∀ y,y<n->u<S y->lab D<=lab y->(∀ k,k<n->f k y=true->S k<u)->False:=by
   intro y hy h1 h2 h3;have h5:=hfull y u hy h1 h3;have h6:=selN_sub (n:=n) (q:=fun z=>decide (lab y<lab z) && decide (S z=u)) (r:=fun z=>decide (lab D<lab z) && decide (S z=u)) (fun z _ hz=>by
    simp only [Bool.and_eq_true,decide_eq_true_eq] at hz ⊢;omega)
   omega
  obtain ⟨y0,hy0,hl0,hu0,_,hr0⟩:=lift u D hD (by omega);have hSy0:S y0=u:=by
   refine Classical.byContradiction fun hc=>notR y0 hy0 (by omega) hl0 hr0
  obtain ⟨D1,hD1,hD1u,hD1top⟩:=max_ex lab (fun z=>S z=u) (lab y0 + lab D + (selN n fun _=>true).length + (List.range n).foldl (fun s x=>s + lab x) 0) (fun x hx _=>by
   have:∀ (l:List Nat) (s:Nat),x ∈ l->lab x<=l.foldl (fun s x=>s + lab x) s:=by
    have mono:∀ (l:List Nat) (s:Nat),s<=l.foldl (fun s x=>s + lab x) s:=by
     intro l
     induction l with
     | nil=>intro s;exact Nat.le_refl _
     | cons a l ih=>intro s;have:=ih (s + lab a);simp only [List.foldl_cons];omega
    intro l
    induction l with
    | nil=>intro s h;cases h
    | cons a l ih=>
     intro s h;simp only [List.foldl_cons];rcases List.mem_cons.1 h with rfl|h
     ·have:=mono l (s + lab x);omega
     ·exact ih _ h
   have:=this (List.range n) 0 (List.mem_range.2 hx);omega) y0 hy0 hSy0
  have hDD1:lab D<lab D1:=by
   have h1:=hD1top y0 hy0 hSy0;have:lab D1≠lab D:=fun e=>by
    have:=hinj D1 D hD1 hD e;subst this;omega
   omega
  have F3:∀ J,J<n->S J=u->J≠D1->lab J<lab D:=by
   intro J hJ hJu hne;refine Classical.byContradiction fun hc=>hu ?_
   have hJD:lab D<lab J:=by
    have:lab J≠lab D:=fun e=>by
     have:=hinj J D hJ hD e;subst this;omega
    omega
   have:=cnt_inj id [J,D1] (selN n fun z=>decide (lab D<lab z) && decide (S z=u)) (by simp [hne]) (fun x hx=>by
    simp at hx;rcases hx with rfl|rfl
    ·exact mem_selN.2 ⟨hJ,by simp [hJD,hJu]⟩
    ·exact mem_selN.2 ⟨hD1,by simp [hDD1,hD1u]⟩) (fun _ _ _ _ e=>e)
   simpa using this
    -- the block of D
  have labF:∀ X,X<n->(X=D\/(u<S X/\S X<t))->lab D<=lab X:=fun X hX h=>by
   rcases h with rfl | ⟨h1,h2⟩
   ·exact Nat.le_refl _
   ·exact Nat.le_of_lt (F1 X hX h1 h2)
  have slotF:∀ X,X<n->(X=D\/(u<S X/\S X<t))->u<S X/\S X<=t:=fun X hX h=>by
   rcases h with rfl | ⟨h1,h2⟩ <;> omega
  have F4:∀ d X,X<n->S X<=d->(X=D\/(u<S X/\S X<t))->f D1 X=true:=by
   intro d
   induction d with
   | zero=>intro X hX h1 h2;have:=slotF X hX h2;omega
   | succ d ih=>
    intro X hX h1 h2;have hs:=slotF X hX h2;have hl:=labF X hX h2;obtain ⟨p,hp,hpf,hpu⟩:∃ p,p<n/\f p X=true/\u<=S p:=by
     refine Classical.byContradiction fun hc=>notR X hX hs.1 hl fun k hk hf=>?_
     refine Classical.byContradiction fun h3=>hc ⟨k,hk,hf,by omega⟩
    have hSp:=hS p X hp hX hpf;have hlp:=hlab p X hp hX hpf;by_cases e:S p=u
    ·by_cases e2:p=D1
     ·rw [<-e2];exact hpf
     ·have:=F3 p hp e e2;omega
    ·exact htr D1 p X hD1 hp hX (ih p hp (by omega) (.inr ⟨by omega,by omega⟩)) hpf
  have F4':∀ X,X<n->(X=D\/(u<S X/\S X<t))->f D1 X=true:=fun X hX h=>F4 _ X hX (Nat.le_refl _) h
  obtain ⟨s1,hs1,hlab1,X1,hX1,hX1F,hX1S⟩:=IH u hut D1 hD1 hD1u hD1top
    -- the block of D1 is ahead of the block of D
  have F5:∀ d Y,Y<n->u - S Y<=d->(Y=D1\/(s1<=S Y/\S Y<u))->∀ X,X<n->(X=D\/(u<S X/\S X<t))->f Y X=true:=by
   intro d
   induction d with
   | zero=>
    intro Y hY h1 h2 X hX hXF;rcases h2 with rfl|h2
    ·exact F4' X hX hXF
    ·omega
   | succ d ih=>
    intro Y hY h1 h2 X hX hXF;rcases h2 with rfl|h2
    ·exact F4' X hX hXF
    by_cases sink:∃ Z,Z<n/\f Y Z=true/\(Z=D1\/(s1<=S Z/\S Z<u))
    ·obtain ⟨Z,hZ,hYZ,hZF⟩:=sink;have hSZ:=hS Y Z hY hZ hYZ;have:u - S Z<=d:=by
      rcases hZF with rfl|hZF <;> omega
     exact htr Y Z X hY hZ hX hYZ (ih Z hZ this hZF X hX hXF)
    ·have hlY:lab D1<lab Y:=hlab1 Y hY h2.1 h2.2
          -- by labels, from the greatest on
     have desc:∀ e X,X<n->(X=D\/(u<S X/\S X<t))->(∀ W,W<n->(W=D\/(u<S W/\S W<t))->lab W<=lab X + e)->f Y X=true:=by
      intro e
      induction e with
      | zero=>
       intro X hX hXF hmax;refine Classical.byContradiction fun hc=>?_
       have hsX:=slotF X hX hXF;have im1:∀ z,z<n->f D1 z=true->f z X=true->False:=fun z hz h1 h2=>by
        have a1:=hS D1 z hD1 hz h1;have a2:=hS z X hz hX h2;have:=hmax z hz (.inr ⟨by omega,by omega⟩);have:=hlab z X hz hX h2;omega
       obtain ⟨k',hk',b1,b2,b3,b4⟩:=hlex D1 Y X hD1 hY hX hlY (F4' X hX hXF) im1 (fun h=>hc h.1);have c1:=hS Y k' hY hk' b1;have hlX:=labF X hX hXF;have kF:k'=D\/(u<S k'/\S k'<t):=by
        by_cases g1:S k'<u
        ·exact absurd ⟨k',hk',b1,.inr ⟨by omega,g1⟩⟩ sink
        by_cases g2:S k'=u
        ·by_cases g3:k'=D1
         ·exact absurd ⟨k',hk',b1,.inl g3⟩ sink
         ·have:=F3 k' hk' g2 g3;omega
        by_cases g4:S k'<t
        ·exact .inr ⟨by omega,g4⟩
        ·by_cases g5:k'=D
         ·exact .inl g5
         ·have:=F2 k' hk' (by omega) g5;omega
       have:=hmax k' hk' kF;omega
      | succ e ihe=>
       intro X hX hXF hmax;by_cases c0:∀ W,W<n->(W=D\/(u<S W/\S W<t))->lab W<=lab X + e
       ·exact ihe X hX hXF c0
       have up:∀ W,W<n->(W=D\/(u<S W/\S W<t))->lab X<lab W->f Y W=true:=fun W hW hWF hl=>ihe W hW hWF (fun V hV hVF=>by have:=hmax V hV hVF;omega)
       by_cases src:∃ W,W<n/\f W X=true/\(W=D\/(u<S W/\S W<t))
       ·obtain ⟨W,hW,hWX,hWF⟩:=src;exact htr Y W X hY hW hX (up W hW hWF (hlab W X hW hX hWX)) hWX
       ·refine Classical.byContradiction fun hc=>?_
        have hsX:=slotF X hX hXF;have im1:∀ z,z<n->f D1 z=true->f z X=true->False:=fun z hz h1 h2=>by
         have a1:=hS D1 z hD1 hz h1;have a2:=hS z X hz hX h2;exact src ⟨z,hz,h2,.inr ⟨by omega,by omega⟩⟩
        obtain ⟨k',hk',b1,b2,b3,b4⟩:=hlex D1 Y X hD1 hY hX hlY (F4' X hX hXF) im1 (fun h=>hc h.1);have c1:=hS Y k' hY hk' b1;have hlX:=labF X hX hXF;have kF:k'=D\/(u<S k'/\S k'<t):=by
         by_cases g1:S k'<u
         ·exact absurd ⟨k',hk',b1,.inr ⟨by omega,g1⟩⟩ sink
         by_cases g2:S k'=u
         ·by_cases g3:k'=D1
          ·exact absurd ⟨k',hk',b1,.inl g3⟩ sink
          ·have:=F3 k' hk' g2 g3;omega
         by_cases g4:S k'<t
         ·exact .inr ⟨by omega,g4⟩
         ·by_cases g5:k'=D
          ·exact .inl g5
          ·have:=F2 k' hk' (by omega) g5;omega
        refine b3 ⟨F4' k' hk' kF,fun z hz q1 q2=>?_⟩;have d1:=hS D1 z hD1 hz q1;have d2:=hS z k' hz hk' q2;have d3:=(slotF k' hk' kF).2;have zF:z=D\/(u<S z/\S z<t):=.inr ⟨by omega,by omega⟩;have d4:=hlab z k' hz hk' q2;exact b2 z hz (up z hz zF (by omega)) q2
     obtain ⟨B,hB⟩:∃ B,∀ W,W<n->(W=D\/(u<S W/\S W<t))->lab W<=lab X + B:=by
      obtain ⟨W0,h1,h2,h3⟩:=max_ex lab (fun W=>W=D\/(u<S W/\S W<t)) (lab D1) (fun x hx h=>Nat.le_of_lt (hlab D1 x hD1 hx (F4' x hx h))) X hX hXF;exact ⟨lab W0,fun W hW hWF=>by have:=h3 W hW hWF;omega⟩
     exact desc B X hX hXF hB
  refine ⟨u + 1,by omega,fun X hX h1 h2=>F1 X hX (by omega) h2,?_⟩;obtain ⟨X,hX,h1,h2⟩:=cap_pick (n:=n) (lo:=u + 1) (hi:=t) S' hcap' (q:=fun z=>decide (z=D) || (decide (u + 1<=S z) && decide (S z<t))) (fun X hX h=>by
   simp only [Bool.or_eq_true,Bool.and_eq_true,decide_eq_true_eq] at h;have:=F5 _ X1 hX1 (Nat.le_refl _) hX1F X hX (by rcases h with h|h;exact .inl h;exact .inr ⟨by omega,h.2⟩)
   have:=hS' X1 X hX1 hX this;omega) (many (u + 1) (by omega) (fun r h1 h2=>huf r (by omega) (by omega)))
  simp only [Bool.or_eq_true,Bool.and_eq_true,decide_eq_true_eq] at h1;exact ⟨X,hX,h1,h2⟩
theorem perms_any (n:Nat):perms n (nums_to n)≠[]:=by
 have:=isPerm_perms (l:=nums_to n) (n:=n) ⟨nums_to_length n,nums_to_nodup n,fun x hx=>mem_nums_to.1 hx⟩;intro h;rw [h] at this;cases this
theorem planC_ls {jobs:List J} {m:Nat} {E:List A2} (h:ParOk jobs (m:Int) E) {l:List Int} (hl:IsPerm jobs.length l):LSd jobs (cloF jobs.length E) l m (planC jobs (m:Int) E l):=
 planLS h.1.1 h.2.2 hl (by have:=h.2.1;omega) (planC_spec h hl).2.1
theorem impl_isDate.eq2 (a:Int) (h:0<=a/\a<=500):impl_isDate.f a=some true:=by
 unfold impl_isDate.f;rw [impl_within.eq,Option.bind_some,decide_eq_true h]
theorem impl_isPlan.ok {jobs:List J} {m:Nat} {E:List A2} (h:ParOk jobs (m:Int) E) {l:List Int} {r:List PTask} (hin:PlanIn jobs r) (hls:LSd jobs (cloF jobs.length E) l m r):Ev (fun k=>impl_isPlan.f k jobs (m:Int) E r) true:=by
 have hj:=h.1.1;have h8:=hj.1;have hm:=h.2.1;have hE:=h.2.2;have h28:=hE.1.2.1;have hrl:=hin.1;have st:∀ j:Nat,j<jobs.length->(rd_T73 r (j:Int)).f0=(j:Int)/\0<=tS r j/\tS r j<=400/\1<=tmI jobs (j:Int)/\tmI jobs (j:Int)<=50:=fun j hj2=>by
  have h1:=hin.2 j hj2;have h2:=tmI_in hj (i:=(j:Int)) (by omega) (by omega);unfold tS;exact ⟨h1.1,h1.2.1,by omega,h2.1,h2.2⟩
 unfold impl_isPlan.f;simp only [if_pos (show (r.length:Int)=(jobs.length:Int) by omega)];refine ev_bind _ (impl_closure.ev jobs.length E (by omega) (by omega) (PairsOk.edg hE.1.2.2)) ?_;have l1:=rev_ind (P:=fun i=>Ev (fun k=>impl_isPlan.l1 k jobs r (tbl jobs.length (cloF jobs.length E)) r (r.length:Int) (i:Int)) true) r.length ?_ ?_ 0 (Nat.zero_le _)
 ·refine rev_ind (P:=fun i=>Ev (fun k=>impl_isPlan.l0 k jobs (m:Int) r (tbl jobs.length (cloF jobs.length E)) r (r.length:Int) (i:Int)) true) r.length ?_ ?_ 0 (Nat.zero_le _)
  ·refine ev_go _ (fun k=>?_) l1;simp only [impl_isPlan.l0];rw [if_neg (by omega)];rfl
  ·intro i hi ih;obtain ⟨s1,s2,s3,s4,s5⟩:=st i (by omega);have hM:=hls.mach i (by omega);refine ev_go _ (fun k=>?_) ih;unfold tM at hM;unfold tS at s2 s3;simp only [impl_isPlan.l0];rw [if_pos (by omega),if_pos (by omega),if_pos (by omega),if_pos s1,impl_isNumber.eq _ _ (by omega) (by omega),Option.bind_some,if_pos (decide_eq_true hM),impl_isDate.eq2 _ ⟨s2,by omega⟩,Option.bind_some,if_pos rfl,wr1 (by omega)]
 ·refine ev_stop fun k=>?_
  simp only [impl_isPlan.l1];rw [if_neg (by omega)]
 ·intro i hi ih;have hin2:i<jobs.length:=by omega
  obtain ⟨s1,s2,s3,s4,s5⟩:=st i hin2;have inner:=rev_ind (P:=fun j=>Ev (fun k=>impl_isPlan.l2 k jobs r (tbl jobs.length (cloF jobs.length E)) (i:Int) r (r.length:Int) (i:Int) r (r.length:Int) (j:Int) (rd_T73 r (i:Int)).f0 (rd_T73 r (i:Int)).f1 (rd_T73 r (i:Int)).f2) true) r.length ?_ ?_ 0 (Nat.zero_le _)
  ·refine ev_go _ (fun k=>?_) inner;simp only [impl_isPlan.l1];rw [if_pos (by omega),if_pos (by omega),if_pos (by omega)];rfl
  ·refine ev_go _ (fun k=>?_) ih;simp only [impl_isPlan.l2];rw [if_neg (by omega),wr1 (by omega)]
  ·intro j hj2 ihj;have hjn:j<jobs.length:=by omega
   obtain ⟨u1,u2,u3,u4,u5⟩:=st j hjn;have w1:wrap64 ((rd_T73 r (i:Int)).f2 + (rd_T44 jobs (i:Int)).f0)=tS r i + tmI jobs (i:Int):=by unfold tmI at s4 s5 ⊢;unfold tS at s2 s3 ⊢;exact wr (by omega) (by omega)
   have w2:wrap64 ((rd_T73 r (j:Int)).f2 + (rd_T44 jobs (j:Int)).f0)=tS r j + tmI jobs (j:Int):=by unfold tmI at u4 u5 ⊢;unfold tS at u2 u3 ⊢;exact wr (by omega) (by omega)
   have hrow:=tbl_rowlen (f:=cloF jobs.length E) hin2;have hat:=tbl_at (f:=cloF jobs.length E) hin2 hjn;have hlen:=tbl_length jobs.length (cloF jobs.length E);have cont:Ev (fun k=>impl_isPlan.j3 k jobs r (tbl jobs.length (cloF jobs.length E)) (i:Int) (j:Int) (decide (tS r i + tmI jobs (i:Int)<=(rd_T73 r (j:Int)).f2)) r (r.length:Int) (i:Int) r (r.length:Int) (j:Int) false (rd_T73 r (i:Int)).f0 (rd_T73 r (i:Int)).f1 (rd_T73 r (i:Int)).f2 (rd_T73 r (j:Int)).f0 (rd_T73 r (j:Int)).f1 (rd_T73 r (j:Int)).f2) true:=by
    by_cases e:i=j
    ·refine ev_go _ (fun k=>?_) ihj;simp only [impl_isPlan.j3];rw [if_neg (by decide),if_pos (by omega),wr1 (by omega)]
    ·by_cases eM:(rd_T73 r (i:Int)).f1=(rd_T73 r (j:Int)).f1
     ·have hap:=hls.apart i j hin2 hjn e eM;by_cases ea:tS r i + tmI jobs (i:Int)<=(rd_T73 r (j:Int)).f2
      ·refine ev_go _ (fun k=>?_) ihj;simp only [impl_isPlan.j3];rw [if_neg (by decide),if_neg (by omega),if_pos eM,if_pos (decide_eq_true ea),wr1 (by omega)]
      ·refine ev_go _ (fun k=>?_) ihj;have hap2:tS r j + tmI jobs (j:Int)<=(rd_T73 r (i:Int)).f2:=by
        unfold tS at hap ea ⊢;omega
       simp only [impl_isPlan.j3];rw [if_neg (by decide),if_neg (by omega),if_pos eM,if_neg (by rw [decide_eq_false ea];decide),if_pos (by omega),if_pos (by omega),w2,if_neg (by omega),wr1 (by omega)]
     ·refine ev_go _ (fun k=>?_) ihj;simp only [impl_isPlan.j3];rw [if_neg (by decide),if_neg (by omega),if_neg eM,wr1 (by omega)]
   by_cases hf:cloF jobs.length E i j=true
   ·have hp:=hls.prec i j hin2 hjn hf;have ea:tS r i + tmI jobs (i:Int)<=(rd_T73 r (j:Int)).f2:=hp;refine ev_go _ (fun k=>?_) cont;simp only [impl_isPlan.l2];rw [if_pos (by omega),if_pos (by omega),if_pos (by omega),if_pos (by omega),if_pos (by omega),if_pos (by omega),if_pos (by omega),hat,if_pos hf,w1,decide_eq_true ea];rfl
   ·refine ev_go _ (fun k=>?_) cont;simp only [impl_isPlan.l2];rw [if_pos (by omega),if_pos (by omega),if_pos (by omega),if_pos (by omega),if_pos (by omega),if_pos (by omega),if_pos (by omega),hat,if_neg hf,w1]
theorem planLength_ls {jobs:List J} {m:Nat} {E:List A2} (h:ParOk jobs (m:Int) E) {l:List Int} {r:List PTask} (hin:PlanIn jobs r) (hls:LSd jobs (cloF jobs.length E) l m r):Ev (fun k=>impl_PlanLength.f k jobs (m:Int) E r) (lenQ jobs r 0 0,true):=by
 have h8:=h.1.1.1;have h28:=h.2.2.1.2.1;unfold impl_PlanLength.f;refine ev_guard' (impl_isParallel.ev jobs (m:Int) E (by omega) (by omega)) (fun _=>?_) (fun hn=>absurd h hn);refine ev_bind _ (impl_isPlan.ok h hin hls) ?_;simp only [if_true];exact ev_bind _ (impl_planLength.ev jobs r h.1.1 hin) (Ev.now _)
theorem lenQ_le_iff (jobs:List J) (L:Int):∀ (l:List PTask) (i:Nat) (o:Int),lenQ jobs l i o<=L ↔ o<=L/\∀ j (hj:j<l.length),(l[j]).f2 + tmI jobs ((i + j:Nat):Int)<=L
 | [],i,o=>by simp [lenQ]
 | t::l,i,o=>by
  rw [lenQ,lenQ_le_iff jobs L l (i + 1)];have e:=mx_ge2 o (t.f2 + tmI jobs (i:Int));constructor
  ·rintro ⟨h1,h2⟩;refine ⟨by omega,fun j hj=>?_⟩;cases j with
   | zero=>simpa using (show t.f2 + tmI jobs (i:Int)<=L by omega)
   | succ j=>have:=h2 j (by simpa using hj);rw [show i + 1 + j=i + (j + 1) by omega] at this;simpa using this
  ·rintro ⟨h1,h2⟩;have h3:=h2 0 (by simp);simp only [List.getElem_cons_zero,Nat.add_zero] at h3;refine ⟨by rcases e.2.2 with e|e <;> omega,fun j hj=>?_⟩
   have:=h2 (j + 1) (by simpa using hj);rw [show i + (j + 1)=i + 1 + j by omega] at this
   simpa using this
theorem len_le {jobs:List J} {r:List PTask} (hin:PlanIn jobs r) (L:Int):lenQ jobs r 0 0<=L ↔ 0<=L/\∀ j,j<jobs.length->tS r j + tmI jobs (j:Int)<=L:=by
 rw [lenQ_le_iff];have hl:=hin.1;constructor
 ·rintro ⟨h1,h2⟩;refine ⟨h1,fun j hj=>?_⟩;have:=h2 j (by omega);rw [Nat.zero_add] at this;unfold tS;rw [rdPTask (by omega)];exact this
 ·rintro ⟨h1,h2⟩;refine ⟨h1,fun j hj=>?_⟩;have:=h2 j (by omega);unfold tS at this;rw [rdPTask (by omega)] at this;rw [Nat.zero_add];exact this
def nS (r:List PTask) (j:Nat):Nat:=(tS r j).toNat
def nM (r:List PTask) (j:Nat):Nat:=(tM r j).toNat
theorem nS_eq {jobs:List J} {r:List PTask} (h:PlanIn jobs r) {j:Nat} (hj:j<jobs.length):((nS r j:Nat):Int)=tS r j:=by
 have:=(h.2 j hj).2.1;unfold nS tS;omega
theorem posN_pair {R:Int->Int->Prop} : ∀ {l:List Int},l.Pairwise R->∀ {x y:Int},x ∈ l->y ∈ l->posN l x<posN l y->R x y
 | [],_,_,_,h,_,_=>by cases h
 | a::l,hp,x,y,hx,hy,h=>by
  have hp':=List.pairwise_cons.1 hp;rw [posN,posN] at h;by_cases e2:a=y
  ·rw [if_pos e2] at h;omega
  ·have hy':=(List.mem_cons.1 hy).resolve_left (fun e=>e2 e.symm);by_cases e1:a=x
   ·subst e1;exact hp'.1 y hy'
   ·rw [if_neg e1,if_neg e2] at h;exact posN_pair hp'.2 ((List.mem_cons.1 hx).resolve_left (fun e=>e1 e.symm)) hy' (by omega)
theorem perm_mem {n:Nat} {o:List Int} (ho:IsPerm n o) {i:Nat} (hi:i<n):(i:Int) ∈ o:=ho.all (i:Int) (by omega) (by omega)
/-- The best list plan, by the program. -/
theorem best_fold {jobs:List J} {m:Int} {E:List A2} (h:ParOk jobs m E):∃ b,IsPerm jobs.length b/\(∀ l,IsPerm jobs.length l->lenC jobs m E b<=lenC jobs m E l)/\(jobs.length<=6->Ev (fun k=>impl_BestListPlan.f k jobs m E) (planC jobs m E b,true)):=by
 have hj:=h.1.1;have h8:=hj.1
 let u:List Int->List PTask × Int->List PTask × Int:=fun l s=>if s.2<0\/lenC jobs m E l<s.2 then (planC jobs m E l,lenC jobs m E l) else s
 have fold:∀ (P:List (List Int)) (b:List Int),(∀ l ∈ P,IsPerm jobs.length l)->IsPerm jobs.length b->∃ b',IsPerm jobs.length b'/\lenC jobs m E b'<=lenC jobs m E b/\(∀ l ∈ P,lenC jobs m E b'<=lenC jobs m E l)/\P.foldl (fun s l=>u l s) (planC jobs m E b,lenC jobs m E b)=(planC jobs m E b',lenC jobs m E b'):=by
  intro P
  induction P with
  | nil=>intro b _ hb;exact ⟨b,hb,Int.le_refl _,(fun l hl=>by cases hl),rfl⟩
  | cons l P ih=>
   intro b hP hb;have hge:0<=lenC jobs m E b:=lenQ_ge jobs _ 0 0;rw [List.foldl_cons];by_cases c:lenC jobs m E l<lenC jobs m E b
   ·have e:u l (planC jobs m E b,lenC jobs m E b)=(planC jobs m E l,lenC jobs m E l):=if_pos (.inr c);rw [e];obtain ⟨b',h1,h2,h3,h4⟩:=ih l (fun x hx=>hP x (List.mem_cons_of_mem _ hx)) (hP l List.mem_cons_self);exact ⟨b',h1,by omega,fun x hx=>by
     rcases List.mem_cons.1 hx with rfl|hx
     ·exact h2
     ·exact h3 x hx,h4⟩
   ·have e:u l (planC jobs m E b,lenC jobs m E b)=(planC jobs m E b,lenC jobs m E b):=if_neg (by
     intro hq;rcases hq with hq|hq
     ·have hq:lenC jobs m E b<0:=hq;omega
     ·exact c hq)
    rw [e];obtain ⟨b',h1,h2,h3,h4⟩:=ih b (fun x hx=>hP x (List.mem_cons_of_mem _ hx)) hb;exact ⟨b',h1,h2,fun x hx=>by
     rcases List.mem_cons.1 hx with rfl|hx
     ·omega
     ·exact h3 x hx,h4⟩
 have hne:=perms_any jobs.length;have hall:∀ l ∈ perms jobs.length (nums_to jobs.length),IsPerm jobs.length l:=fun l hl=>perms_isPerm hl
 have run:∃ b,IsPerm jobs.length b/\(∀ l ∈ perms jobs.length (nums_to jobs.length),lenC jobs m E b<=lenC jobs m E l)/\(perms jobs.length (nums_to jobs.length)).foldl (fun s l=>u l s) ([], -1)=(planC jobs m E b,lenC jobs m E b):=by
  generalize perms jobs.length (nums_to jobs.length)=P at hne hall;cases P with
  | nil=>exact absurd rfl hne
  | cons l P=>
   rw [List.foldl_cons];have e:u l ([], -1)=(planC jobs m E l,lenC jobs m E l):=if_pos (.inl (by decide));rw [e];obtain ⟨b',h1,h2,h3,h4⟩:=fold P l (fun x hx=>hall x (List.mem_cons_of_mem _ hx)) (hall l List.mem_cons_self);exact ⟨b',h1,fun x hx=>by
    rcases List.mem_cons.1 hx with rfl|hx
    ·exact h2
    ·exact h3 x hx,h4⟩
 obtain ⟨b,h1,h2,h3⟩:=run;refine ⟨b,h1,fun l hl=>h2 l (isPerm_perms hl),fun h6=>?_⟩;have eI:=impl_eachOrder.ev (impl_BestListPlan.step jobs m E) u (fun _=>True) jobs.length (by omega) ([], -1) (fun l hl s _=>⟨by
  obtain ⟨q1,q2,q3⟩:=planC_spec h hl;unfold impl_BestListPlan.step;exact ev_bind _ q2 (ev_bind _ (impl_planLength.ev jobs _ hj q1) (Ev.now _)),trivial⟩) trivial
 rw [h3] at eI;unfold impl_BestListPlan.f;refine ev_guard' (impl_isParallel.ev jobs m E (by omega) (by have:=h.2.2.1.2.1;omega)) (fun _=>?_) (fun hn=>absurd h hn);simp only [if_neg (show ¬ (jobs.length:Int)>6 by omega)];exact ev_bind _ eI (Ev.now _)
theorem best_none {jobs:List J} {m:Int} {E:List A2} (h:ParOk jobs m E) (h6:¬ jobs.length<=6):Ev (fun k=>impl_BestListPlan.f k jobs m E) ([],false):=by
 have h8:=h.1.1.1;unfold impl_BestListPlan.f;refine ev_guard' (impl_isParallel.ev jobs m E (by omega) (by have:=h.2.2.1.2.1;omega)) (fun _=>?_) (fun hn=>absurd h hn);simp only [if_pos (show (jobs.length:Int)>6 by omega)];exact Ev.now _
theorem laws_vTasks.same (r:List PTask) (h:r.length<=2000000):Ev (fun k=>laws_vTasks.f k r r) true:=by
 unfold laws_vTasks.f;simp only [if_true];refine rev_ind (P:=fun i=>Ev (fun k=>laws_vTasks.l0 k r r (i:Int)) true) r.length ?_ ?_ 0 (Nat.zero_le _)
 ·refine ev_stop fun k=>?_
  simp only [laws_vTasks.l0];rw [if_neg (by omega)]
 ·intro i hi ih;refine ev_go _ (fun k=>?_) ih;simp only [laws_vTasks.l0];rw [if_pos (by omega),if_pos (by omega),if_pos (by omega),beq_self_eq_true,beq_self_eq_true,beq_self_eq_true,if_neg (by decide),wr1 (by omega)]
theorem unit_prec {jobs:List J} (hj:JobsOk jobs) {f:BF} {m:Nat} {o:List Int} {r:List PTask} (hin:PlanIn jobs r) (h:LSd jobs f o m r) {i k:Nat} (hi:i<jobs.length) (hk:k<jobs.length) (hf:f i k=true):nS r i<nS r k:=by
 have h1:=h.prec i k hi hk hf;have a1:=nS_eq hin hi;have a2:=nS_eq hin hk;have ht:=tmI_in hj (i:=(i:Int)) (by omega) (by omega);omega
theorem unit_cap {jobs:List J} (hu:∀ j:Nat,j<jobs.length->tmI jobs (j:Int)=1) {f:BF} {m:Nat} {o:List Int} {r:List PTask} (hin:PlanIn jobs r) (h:LSd jobs f o m r) (t:Nat):(selN jobs.length fun x=>decide (nS r x=t)).length<=m:=by
 have:=cnt_inj (nM r) (selN jobs.length fun x=>decide (nS r x=t)) (List.range m) (selN_nodup _ _) (fun x hx=>by
  have h1:=h.mach x (mem_selN.1 hx).1;rw [List.mem_range];unfold nM;omega) (fun x hx y hy e=>by
  obtain ⟨x1,x2⟩:=mem_selN.1 hx;obtain ⟨y1,y2⟩:=mem_selN.1 hy;rw [decide_eq_true_eq] at x2 y2;refine Classical.byContradiction fun hne=>?_
  have m1:=h.mach x x1;have m2:=h.mach y y1;have h1:=h.apart x y x1 y1 hne (by unfold nM at e;omega);have a1:=nS_eq hin x1;have a2:=nS_eq hin y1;have b1:=hu x x1;have b2:=hu y y1;omega)
 rwa [List.length_range] at this
theorem unit_full {jobs:List J} (hu:∀ j:Nat,j<jobs.length->tmI jobs (j:Int)=1) {f:BF} {m:Nat} {o:List Int} {r:List PTask} (hin:PlanIn jobs r) (h:LSd jobs f o m r) {y u:Nat} (hy:y<jobs.length) (hyu:u<nS r y) (hk:∀ k,k<jobs.length->f k y=true->nS r k<u):m<=(selN jobs.length fun z=>decide (posN o (z:Int)<posN o (y:Int)) && decide (nS r z=u)).length:=by
 have ay:=nS_eq hin hy;have run:∀ q,q<m->∃ i,i<jobs.length/\nM r i=q/\nS r i=u/\posN o (i:Int)<posN o (y:Int):=fun q hq=>by
  have vac:∀ k,k<jobs.length->f k y=true->tS r k + tmI jobs (k:Int)<=(u:Int):=fun k h1 h2=>by
   have:=hk k h1 h2;have:=hu k h1;have:=nS_eq hin h1;omega
  obtain ⟨i,hi,h1,h2,h3⟩:=h.busy y hy (u:Int) (by omega) (by omega) vac q hq;have b1:=hu i hi;have a1:=nS_eq hin hi;have hS:nS r i=u:=by omega
  exact ⟨i,hi,by unfold nM;omega,hS,h.prio i y hi hy (fun e=>by subst e;omega) (.inl (by omega)) (fun k h1 h2=>by have:=vac k h1 h2;omega)⟩
 let c:Nat->Nat:=fun q=>if hq:q<m then Classical.choose (run q hq) else 0
 have cs:∀ q,q<m->c q<jobs.length/\nM r (c q)=q/\nS r (c q)=u/\posN o ((c q:Nat):Int)<posN o (y:Int):=fun q hq=>by
  have:c q=Classical.choose (run q hq):=dif_pos hq;rw [this];exact Classical.choose_spec (run q hq)
 have:=cnt_inj c (List.range m) (selN jobs.length fun z=>decide (posN o (z:Int)<posN o (y:Int)) && decide (nS r z=u)) List.nodup_range (fun q hq=>by
  obtain ⟨c1,c2,c3,c4⟩:=cs q (List.mem_range.1 hq);exact mem_selN.2 ⟨c1,by rw [decide_eq_true c4,decide_eq_true c3];rfl⟩) (fun q hq p hp e=>by
  rw [<-(cs q (List.mem_range.1 hq)).2.1,e,(cs p (List.mem_range.1 hp)).2.1])
 rwa [List.length_range] at this
theorem tail_le {jobs:List J} {f:BF} (hp:PreF jobs.length f) {m:Nat} {o:List Int} {r:List PTask} (hin:PlanIn jobs r) (h:LSd jobs f o m r):∀ (d i:Nat),i<jobs.length->cntF jobs.length f i<=d->tS r i + TL jobs f i<=lenQ jobs r 0 0:=by
 have hle:=((len_le hin (lenQ jobs r 0 0)).1 (Int.le_refl _)).2;intro d
 induction d with
 | zero=>
  intro i hi hd;have h1:=hle i hi;rw [TL_eq jobs hp i hi];rcases bestB_at f (TL jobs f) i (List.range jobs.length) 0 with e | ⟨k,hk,hf,e⟩
  ·rw [e];unfold tmF;unfold tmI at h1;omega
  ·have:=cnt_lt hp hi (List.mem_range.1 hk) hf;omega
 | succ d ih=>
  intro i hi hd;have h1:=hle i hi;rw [TL_eq jobs hp i hi];rcases bestB_at f (TL jobs f) i (List.range jobs.length) 0 with e | ⟨k,hk,hf,e⟩
  ·rw [e];unfold tmF;unfold tmI at h1;omega
  ·have hk:=List.mem_range.1 hk;have h2:=cnt_lt hp hi hk hf;have h3:=ih k hk (by omega);have h4:=h.prec i k hi hk hf;rw [e];unfold tmF;unfold tmI at h4;omega
theorem par_pre {jobs:List J} {m:Int} {E:List A2} (hP:ParOk jobs m E):PreF jobs.length (cloF jobs.length E):=preF_of (by have:=hP.2.2.2;rwa [Int.toNat_natCast] at this)
theorem df_iff {f:BF} {n i k:Nat} : dirR f i k n 0 true=true ↔ ∀ z,z<n->f i z=true->f z k=true->False:=by
 rw [dirR_true];exact ⟨fun h z hz a b=>h.2 z (Nat.zero_le _) (by omega) ⟨a,b⟩,fun h=>⟨rfl,fun z _ hz hh=>h z (by omega) hh.1 hh.2⟩⟩
theorem fall_before {nums:List Int} {n:Nat} (z y:Nat) (hz:z<n) (hy:y<n) (h:posN (sortN (fallLt nums) n) (z:Int)<posN (sortN (fallLt nums) n) (y:Int)):rd nums (y:Int)<=rd nums (z:Int):=by
 have hs:SortedLt (fallLt nums) (sortN (fallLt nums) n):=insAll_sorted (fallLt_pre _ (fun _=>True)) _ [] (fun _ _=>trivial) (fun _ _=>trivial) List.Pairwise.nil;have hw:=sortN_isPerm (fallLt nums) n;have hg:=of_decide_eq_false (posN_pair hs (perm_mem hw hz) (perm_mem hw hy) h);omega
/-- In a tree no plan is shorter than the one that begins with the longest tails. -/
theorem tails_best {jobs:List J} {m:Nat} {E:List A2} (hP:ParOk jobs (m:Int) E) (hu:∀ j:Nat,j<jobs.length->tmI jobs (j:Int)=1) (htree:∀ i y y':Nat,i<jobs.length->y<jobs.length->y'<jobs.length->(cloF jobs.length E i y=true/\dirR (cloF jobs.length E) i y jobs.length 0 true=true)->(cloF jobs.length E i y'=true/\dirR (cloF jobs.length E) i y' jobs.length 0 true=true)->y=y') {o:List Int} (ho:IsPerm jobs.length o):lenQ jobs (planC jobs (m:Int) E (sortN (fallLt (tailsL jobs (cloF jobs.length E))) jobs.length)) 0 0<=lenQ jobs (planC jobs (m:Int) E o) 0 0:=by
 have hj:=hP.1.1;have hp:=par_pre hP;have hw:=sortN_isPerm (fallLt (tailsL jobs (cloF jobs.length E))) jobs.length;have hb:=fun z y=>fall_before (nums:=tailsL jobs (cloF jobs.length E)) (n:=jobs.length) z y
 generalize sortN (fallLt (tailsL jobs (cloF jobs.length E))) jobs.length=w at hw hb;obtain ⟨p1,_,_⟩:=planC_spec hP hw;obtain ⟨q1,_,_⟩:=planC_spec hP ho;have l1:=planC_ls hP hw;have l2:=planC_ls hP ho;generalize planC jobs (m:Int) E w=r at p1 l1;generalize planC jobs (m:Int) E o=r' at q1 l2;generalize hfe:cloF jobs.length E=f at *;have h0:=lenQ_ge jobs r' 0 0;have tp:=fun i hi=>TL_pos jobs hj hp i hi
 have key:=hu_bound (n:=jobs.length) (m:=m) (f:=f) (lev:=fun x=>(TL jobs f x).toNat) (S:=nS r) (S':=nS r') (T:=(lenQ jobs r' 0 0).toNat) (fun i k hi hk hf=>by
  have t1:=tp i hi;have t2:=tp k hk;have h1:=(bestB_ge f (TL jobs f) i (List.range jobs.length) 0).2 k (List.mem_range.2 hk) hf;have h2:=TL_eq jobs hp i hi
  show (TL jobs f k).toNat<(TL jobs f i).toNat
  omega) (fun i y y' hi hy hy' a b c d=>htree i y y' hi hy hy' ⟨a,df_iff.2 c⟩ ⟨b,df_iff.2 d⟩) (fun i k hi hk hf=>unit_prec hj p1 l1 hi hk hf) (fun y u hy hyu hk=>by
  refine Nat.le_trans (unit_full hu p1 l1 hy hyu hk) (selN_sub fun z hz hq=>?_);rw [Bool.and_eq_true,decide_eq_true_eq] at hq;have h1:=hb z y hz hy hq.1;rw [tailsL_rd jobs f hz,tailsL_rd jobs f hy] at h1;have t1:=tp z hz;have t2:=tp y hy;rw [hq.2,Bool.and_true];exact decide_eq_true (by omega)) (fun i hi=>by
  have h1:=tail_le hp q1 l2 (cntF jobs.length f i) i hi (Nat.le_refl _);have a1:=nS_eq q1 hi;have t1:=tp i hi
  show nS r' i + (TL jobs f i).toNat<=(lenQ jobs r' 0 0).toNat
  omega) (fun t=>by simpa using unit_cap hu q1 l2 t)
 rw [len_le p1];refine ⟨h0,fun j hj2=>?_⟩;have h1:nS r j + (TL jobs f j).toNat<=(lenQ jobs r' 0 0).toNat:=key (nS r j) j hj2 (Nat.le_refl _);have a1:=nS_eq p1 hj2;have t1:=tp j hj2;have b1:=hu j hj2;unfold tmF at t1;unfold tmI at b1 ⊢;omega
theorem lab_prec {n:Nat} {f:BF} (hp:PreF n f) {v:Nat} {L:List Int} (hL:LabSt n f v L) (hpos:∀ i:Nat,i<n->0<rd L (i:Int)):∀ (d i k:Nat),i<n->k<n->f i k=true->cntF n f i - cntF n f k<=d->rd L (k:Int)<rd L (i:Int):=by
 intro d
 induction d with
 | zero=>
  intro i k hi hk hf hd;have:=cnt_lt hp hi hk hf;omega
 | succ d ih=>
  intro i k hi hk hf hd;by_cases hD:dirR f i k n 0 true=true
  ·exact (hL.fol i hi (hpos i hi) k hk ⟨hf,hD⟩).2
  ·obtain ⟨z,hz,a,b⟩:∃ z,z<n/\f i z=true/\f z k=true:=Classical.byContradiction fun hn=>hD (df_iff.2 fun z hz a b=>hn ⟨z,hz,a,b⟩)
   have h1:=cnt_lt hp hi hz a;have h2:=cnt_lt hp hz hk b;have h3:=ih i z hi hz a (by omega);have h4:=ih z k hz hk b (by omega);omega
theorem folN_lt (f:BF) (i n:Nat):∀ (c j:Nat),(folN f i n c j).Pairwise fun a b=>a<b
 | 0,_=>List.Pairwise.nil
 | c + 1,j=>by
  rw [folN,List.pairwise_append];refine ⟨by split <;> simp,folN_lt f i n c (j + 1),fun a ha b hb=>?_⟩;obtain ⟨m,h1,_,_,_,h5⟩:=(folN_mem f i n b c (j + 1)).1 hb
  split at ha
  ·have:a=(j:Int):=by simpa using ha
   omega
  ·cases ha
theorem key_mem {n:Nat} {f:BF} {L:List Int} (hlow:∀ i:Nat,i<n->0<rd L (i:Int)/\rd L (i:Int)<=(n:Int)) {x:Nat} {a:Int} : a ∈ keyL f n L x ↔ ∃ k:Nat,k<n/\DF f n x k/\a=rd L (k:Int):=by
 constructor
 ·intro h;obtain ⟨h1,_⟩:=byLab_mem h;obtain ⟨y,hy,rfl⟩:=List.mem_map.1 h1;obtain ⟨k,hk,hd,rfl⟩:=folI_mem.1 hy;exact ⟨k,hk,hd,rfl⟩
 ·rintro ⟨k,hk,hd,rfl⟩;refine (byLab_perm n _).mem_iff.2 (List.mem_filter.2 ⟨List.mem_map.2 ⟨(k:Int),folI_mem.2 ⟨k,hk,hd,rfl⟩,rfl⟩,decide_eq_true (hlow k hk)⟩)
theorem key_fall {n:Nat} {f:BF} {v:Nat} {L:List Int} (hL:LabSt n f v L) (hpos:∀ i:Nat,i<n->0<rd L (i:Int)) (x:Nat):(keyL f n L x).Pairwise fun a b=>b<a:=by
 have h1:(labOf L (folI f n x)).Nodup:=by
  unfold labOf List.Nodup;rw [List.pairwise_map];refine List.Pairwise.imp_of_mem (fun {a b} ha hb hab e=>?_) (folN_lt f x n n 0);obtain ⟨i,hi,_,rfl⟩:=folI_mem.1 ha;obtain ⟨k,hk,_,rfl⟩:=folI_mem.1 hb;have:=hL.inj i k hi hk e (hpos i hi);omega
 have h2:(keyL f n L x).Nodup:=(byLab_perm n _).nodup_iff.2 (List.Pairwise.filter _ h1);exact ((byLab_desc n (labOf L (folI f n x))).and h2).imp fun {a b} h=>by omega
/-- No plan for two machines is shorter than the one by labels. -/
theorem label_best {jobs:List J} {E:List A2} (hP:ParOk jobs ((2:Nat):Int) E) (hu:∀ j:Nat,j<jobs.length->tmI jobs (j:Int)=1) {L:List Int} (hL:LabSt jobs.length (cloF jobs.length E) (jobs.length + 1) L) (hpos:∀ i:Nat,i<jobs.length->0<rd L (i:Int)) {o:List Int} (ho:IsPerm jobs.length o):lenQ jobs (planC jobs ((2:Nat):Int) E (sortN (fallLt L) jobs.length)) 0 0<=lenQ jobs (planC jobs ((2:Nat):Int) E o) 0 0:=by
 have hj:=hP.1.1;have hp:=par_pre hP;have hw:=sortN_isPerm (fallLt L) jobs.length;have hb:=fun z y=>fall_before (nums:=L) (n:=jobs.length) z y
 generalize sortN (fallLt L) jobs.length=w at hw hb;obtain ⟨p1,_,_⟩:=planC_spec hP hw;obtain ⟨q1,_,_⟩:=planC_spec hP ho;have l1:=planC_ls hP hw;have l2:=planC_ls hP ho;generalize planC jobs ((2:Nat):Int) E w=r at p1 l1;generalize planC jobs ((2:Nat):Int) E o=r' at q1 l2;generalize hfe:cloF jobs.length E=f at *;have hlow:∀ i:Nat,i<jobs.length->0<rd L (i:Int)/\rd L (i:Int)<=(jobs.length:Int):=fun i hi=>by
  have:=hL.low i hi;have:=hpos i hi;omega
 have key:=cg_bound (n:=jobs.length) (f:=f) (lab:=fun x=>(rd L (x:Int)).toNat) (S:=nS r) (S':=nS r') (fun i k hi hk hf=>by
  have h1:=lab_prec hp hL hpos (cntF jobs.length f i) i k hi hk hf (by omega);have h2:=hpos k hk
  show (rd L (k:Int)).toNat<(rd L (i:Int)).toNat
  omega) (fun i k hi hk e=>by
  have e:(rd L (i:Int)).toNat=(rd L (k:Int)).toNat:=e;have h1:=hpos i hi;have h2:=hpos k hk;exact hL.inj i k hi hk (by omega) h1) (fun i k j hi hk hj2 a b=>hp.2 i k j hi hk hj2 a b) (fun x y k hx hy hk hlt hxk hdir hny=>by
  have hlt:(rd L (x:Int)).toNat<(rd L (y:Int)).toNat:=hlt;have h1:=hlow x hx;have h2:=hlow y hy;have h3:=hlow k hk;have dk:DF f jobs.length x k:=⟨hxk,df_iff.2 hdir⟩;have hfx:=hL.fol x hx h1.1
  suffices hs:∃ q:Nat,q<jobs.length/\DF f jobs.length y q/\¬ DF f jobs.length x q/\rd L (k:Int)<rd L (q:Int) by
   obtain ⟨q,q1,q2,q3,q4⟩:=hs;exact ⟨q,q1,q2.1,df_iff.1 q2.2,fun hh=>q3 ⟨hh.1,df_iff.2 hh.2⟩,by show (rd L (k:Int)).toNat<(rd L (q:Int)).toNat;omega⟩
  by_cases rdy:∀ q:Nat,q<jobs.length->DF f jobs.length y q->rd L (q:Int)<rd L (x:Int)
  ·have hl:=hL.lex x y hx hy h1.1 (.inr (by omega)) (fun q a b=>⟨hpos q a,rdy q a b⟩);obtain ⟨b,b1,b2,b3⟩:=lex_exch (key_fall hL hpos x) (key_fall hL hpos y) hl ((key_mem hlow).2 ⟨k,hk,dk,rfl⟩) (fun hh=>by
    obtain ⟨q,a1,a2,a3⟩:=(key_mem hlow).1 hh;have:=hL.inj k q hk a1 a3 h3.1;subst this;exact hny ⟨a2.1,df_iff.1 a2.2⟩)
   obtain ⟨q,a1,a2,rfl⟩:=(key_mem hlow).1 b1;exact ⟨q,a1,a2,fun hh=>b2 ((key_mem hlow).2 ⟨q,a1,hh,rfl⟩),b3⟩
  ·obtain ⟨q,a1,a2,a3⟩:∃ q:Nat,q<jobs.length/\DF f jobs.length y q/\¬ rd L (q:Int)<rd L (x:Int):=Classical.byContradiction fun hn=>rdy fun q a b=>Classical.byContradiction fun c=>hn ⟨q,a,b,c⟩
   have h4:=(hfx k hk dk).2;exact ⟨q,a1,a2,fun hh=>a3 (hfx q a1 hh).2,by omega⟩) (fun i k hi hk hf=>unit_prec hj p1 l1 hi hk hf) (fun t=>unit_cap hu p1 l1 t) (fun y u hy hyu hk=>by
  refine Nat.le_trans (unit_full hu p1 l1 hy hyu hk) (selN_sub fun z hz hq=>?_);rw [Bool.and_eq_true,decide_eq_true_eq] at hq;have h1:=hb z y hz hy hq.1;have h2:=hlow z hz;have h3:=hlow y hy;have hne:rd L (y:Int)≠rd L (z:Int):=fun e=>by
   have:=hL.inj y z hy hz e h3.1;subst this;omega
  rw [hq.2,Bool.and_true];exact decide_eq_true (by omega)) (fun i k hi hk hf=>unit_prec hj q1 l2 hi hk hf) (fun t=>by simpa using unit_cap hu q1 l2 t)
 rw [len_le p1];refine ⟨lenQ_ge jobs r' 0 0,fun j hj2=>?_⟩;obtain ⟨D,hD,hDq,hDm⟩:=max_ex (n:=jobs.length) (fun x=>(rd L (x:Int)).toNat) (fun z=>nS r z=nS r j) jobs.length (fun x hx _=>by have:=hlow x hx;show (rd L (x:Int)).toNat<=jobs.length;omega) j hj2 rfl;obtain ⟨s0,_,_,X,hX,_,hXle⟩:=key (nS r j) D hD hDq (fun z hz hq=>hDm z hz hq);have h1:=((len_le q1 (lenQ jobs r' 0 0)).1 (Int.le_refl _)).2 X hX;have a1:=nS_eq p1 hj2;have a2:=nS_eq q1 hX;have b1:=hu j hj2;have b2:=hu X hX;omega
theorem tf_l0 {s:List Int} (hs:ByteL s):∀ (c i:Nat) (jobs:List J) (E:List A2) (p q:Int),jobs.length=i + c->jobs.length<=100->E.length<=i->0<=p->p + 4 * c<=100000000000->∃ (jobs':List J) (m:Int) (E':List A2),Ev (fun k=>spec_DrawTailsFirst.l0 k jobs E (i:Int) s p q) (jobs',m,E')/\jobs'.length<=100/\E'.length<=100/\(-1<=m/\m<=5):=by
 intro c
 induction c with
 | zero=>
  intro i jobs E p q h1 h2 h3 hp hb;obtain ⟨m,p2,q2,e2,hm,_⟩:=spec_l1Cur_machines.tot hs p q hp (by omega);refine ⟨jobs,m,E,ev_stop fun k=>?_,h2,by omega,hm⟩;simp only [spec_DrawTailsFirst.l0];rw [if_neg (by omega),e2,Option.bind_some]
 | succ c ih=>
  intro i jobs E p q h1 h2 h3 hp hb;have j1:∀ jobs1:List J,jobs1.length=jobs.length->∃ (jobs':List J) (m:Int) (E':List A2),Ev (fun k=>spec_DrawTailsFirst.j1 k jobs1 E (i:Int) s p q) (jobs',m,E')/\jobs'.length<=100/\E'.length<=100/\(-1<=m/\m<=5):=fun jobs1 hj1=>by
   by_cases c1:((i + 1:Nat):Int)<(jobs1.length:Int)
   ·obtain ⟨b,p1,q1,e1,h4,h5⟩:=on hs p q 3 hp (by omega);by_cases cb:b=true
    ·obtain ⟨a1,a2,a3,hr,h6⟩:=ih (i + 1) jobs1 E p1 q1 (by omega) (by omega) (by omega) (by omega) (by omega);refine ⟨a1,a2,a3,ev_go _ (fun k=>?_) hr,h6⟩;simp only [spec_DrawTailsFirst.j1];rw [wr1 (by omega),if_pos c1,e1,Option.bind_some,if_pos cb]
    ·obtain ⟨v,p2,q2,e2,_,_,h7,h8⟩:=pk hs p1 q1 (wrap64 (wrap64 ((jobs1.length:Int) - (i:Int)) - 1)) (by omega) (by omega);obtain ⟨a1,a2,a3,hr,h6⟩:=ih (i + 1) jobs1 (E++[⟨(i:Int),wrap64 (((i + 1:Nat):Int) + v)⟩]) p2 q2 (by omega) (by omega) (by simp;omega) (by omega) (by omega);refine ⟨a1,a2,a3,ev_go _ (fun k=>?_) hr,h6⟩;simp only [spec_DrawTailsFirst.j1];rw [wr1 (by omega),if_pos c1,e1,Option.bind_some,if_neg cb,e2,Option.bind_some,if_pos (by omega)]
   ·obtain ⟨a1,a2,a3,hr,h6⟩:=ih (i + 1) jobs1 E p q (by omega) (by omega) (by omega) (by omega) (by omega);refine ⟨a1,a2,a3,ev_go _ (fun k=>?_) hr,h6⟩;simp only [spec_DrawTailsFirst.j1];rw [wr1 (by omega),if_neg c1]
  by_cases cf:(rd_T44 jobs (i:Int)).f0>1
  ·obtain ⟨a1,a2,a3,hr,h6⟩:=j1 (jobs.set (i:Int).toNat ⟨1,(rd_T44 jobs i).f1,(rd_T44 jobs i).f2,(rd_T44 jobs i).f3⟩) (by simp);refine ⟨a1,a2,a3,ev_go _ (fun k=>?_) hr,h6⟩;simp only [spec_DrawTailsFirst.l0];rw [if_pos (by omega),if_pos (by omega),if_pos cf]
  ·obtain ⟨a1,a2,a3,hr,h6⟩:=j1 jobs rfl;refine ⟨a1,a2,a3,ev_go _ (fun k=>?_) hr,h6⟩;simp only [spec_DrawTailsFirst.l0];rw [if_pos (by omega),if_pos (by omega),if_neg cf]
theorem spec_DrawTailsFirst.tot {s:List Int} (hs:ByteL s):∃ (jobs:List J) (m:Int) (E:List A2),Ev (fun k=>spec_DrawTailsFirst.f k s) (jobs,m,E)/\jobs.length<=100/\E.length<=100/\(-1<=m/\m<=5):=by
 unfold spec_DrawTailsFirst.f;obtain ⟨r,p1,q1,hr,h1,h2,h3⟩:=spec_l1Cur_work7.tot hs 0 0 (by omega) (by omega);obtain ⟨b,p2,q2,e2,h4,h5⟩:=on hs p1 q1 2 (by omega) (by omega);by_cases cb:b=true
 ·obtain ⟨m,p3,q3,e3,hm,h6,h7⟩:=spec_l1Cur_machines.tot hs p2 q2 (by omega) (by omega);obtain ⟨E,p4,q4,e4,h8,_⟩:=spec_l1Cur_edges.tot hs (r.length:Int) p3 q3 (by omega) (by omega) (by omega);refine ⟨r,m,E,ev_bind _ hr ?_,h1,h8,hm⟩;simp only [e2,Option.bind_some,if_pos cb,e3];exact ev_bind _ e4 (Ev.now _)
 ·obtain ⟨jobs,m,E,hr2,h6⟩:=tf_l0 hs r.length 0 r [] p2 q2 (by omega) h1 (by simp) (by omega) (by omega);refine ⟨jobs,m,E,ev_bind _ hr ?_,h6⟩;simp only [e2,Option.bind_some,if_neg cb];exact hr2
theorem spec_DrawLabelsOf.tot {s:List Int} (hs:ByteL s):∃ (n:Int) (E:List A2),Ev (fun k=>spec_DrawLabelsOf.f k s) (n,E)/\(-1<=n/\n<=9)/\E.length<=100:=by
 unfold spec_DrawLabelsOf.f;obtain ⟨n,p1,q1,e1,hn,h1,h2⟩:=am hs 0 0 [3,4,5,6,7,8,1,0] (by simp) (by omega) (by omega);have hn2:0<=n/\n<=9:=by
  simp only [List.mem_cons,List.not_mem_nil,or_false] at hn;rcases hn with rfl|rfl|rfl|rfl|rfl|rfl|rfl|rfl <;> omega
 obtain ⟨E,p2,q2,e2,h3,h4,h5⟩:=spec_l1Cur_edges.tot hs n p1 q1 (by omega) (by omega) (by omega);obtain ⟨b,p3,q3,e3,h6,h7⟩:=on hs p2 q2 24 (by omega) (by omega);by_cases cb:b=true
 ·obtain ⟨v,p4,q4,e4,hv,_⟩:=am hs p3 q3 [-1,9,2] (by simp) (by omega) (by omega);refine ⟨v,E,?_,?_,h3⟩
  ·simp only [e1,Option.bind_some];refine ev_bind _ e2 ?_;simp only [e3,Option.bind_some,if_pos cb,e4];exact Ev.now _
  ·simp only [List.mem_cons,List.not_mem_nil,or_false] at hv;rcases hv with rfl|rfl|rfl <;> omega
 ·refine ⟨n,E,?_,by omega,h3⟩;simp only [e1,Option.bind_some];refine ev_bind _ e2 ?_;simp only [e3,Option.bind_some,if_neg cb];exact Ev.now _
theorem laws_vCut.some {l:List Int} (hl:l.length<=1000000) (hb:ByteL l) (a:Int) (ha:0<=a/\a<=100):∃ c,laws_vCut.f l a=some c/\ByteL c:=by
 have hd:∀ x:Nat,(l.drop x).length<=l.length:=fun x=>by rw [List.length_drop];omega
 have fin:∀ (x:Nat) (v:Int),0<=v->ByteL ([]++l.drop x++[v % 256]):=fun x v hv y hy=>by
  rcases List.mem_append.1 hy with hy|hy
  ·exact hb y (List.mem_of_mem_drop (by simpa using hy))
  ·rw [List.mem_singleton.1 hy];simp [Lit.wf,IntKind.min,IntKind.max,IntKind.signed,IntKind.bits];omega
 unfold laws_vCut.f;by_cases c:a>(l.length:Int)
 ·have h1:=hd (l.length:Int).toNat
  refine ⟨_,?_,fin (l.length:Int).toNat (l.length:Int) (by omega)⟩;rw [if_pos c];simp only [Option.bind_some];rw [if_pos (by omega),if_pos (by omega),if_pos (by simp),if_pos (by simp)]
 ·have h1:=hd a.toNat
  refine ⟨_,?_,fin a.toNat a ha.1⟩;rw [if_neg c];simp only [Option.bind_some];rw [if_pos (by omega),if_pos (by omega),if_pos (by simp;omega),if_pos (by simp;omega)]
theorem laws_vInts.same2 (l:List Int) (hl:l.length<=1000000):Ev (fun k=>laws_vInts.f k l l) true:=by
 unfold laws_vInts.f;simp only [if_true];refine rev_ind (P:=fun i=>Ev (fun k=>laws_vInts.l0 k l l (i:Int)) true) l.length ?_ ?_ 0 (Nat.zero_le _)
 ·refine ev_stop fun k=>?_
  simp only [laws_vInts.l0];rw [if_neg (by omega)]
 ·intro i hi ih;refine ev_go _ (fun k=>?_) ih;simp only [laws_vInts.l0];rw [if_pos (by omega),if_pos (by omega),if_pos (by omega),if_pos trivial,wr1 (by omega)]
theorem laws_vHas.ok {l:List Int} (hl:l.length<=1000000) {v:Int} {i:Nat} (hi:i<l.length) (hv:rd l (i:Int)=v):Ev (fun k=>laws_vHas.f k l v) true:=by
 unfold laws_vHas.f;refine rev_ind (P:=fun j=>j<=i->Ev (fun k=>laws_vHas.l0 k l v (j:Int)) true) (i + 1) ?_ ?_ 0 (Nat.zero_le _) (Nat.zero_le _)
 ·intro h;omega
 ·intro j hj ih hji;by_cases e:rd l (j:Int)=v
  ·refine ev_stop fun k=>?_
   simp only [laws_vHas.l0];rw [if_pos (by omega),if_pos (by omega),if_pos e]
  ·have hne:j≠i:=fun q=>by subst q;exact e hv
   refine ev_go _ (fun k=>?_) (ih (by omega));simp only [laws_vHas.l0];rw [if_pos (by omega),if_pos (by omega),if_neg e,wr1 (by omega)]
/-- what the tree test tells -/
def TreeAt (jobs:List J) (L:List A2) (j:Nat):Prop:=L.countP (fun p=>decide (p.f0=(j:Int)))<=1/\tmI jobs (j:Int)=1
theorem tree_uniq {n:Nat} {f:BF} {i y y':Nat} (hi:i<n) (hc:(redL f n (pis f n n 0)).countP (fun p=>decide (p.f0=(i:Int)))<=1) (hy:y<n) (hy':y'<n) (h1:DF f n i y) (h2:DF f n i y'):y=y':=by
 have e:=pis_row f n i n 0;rw [if_pos (by omega)] at e;have e2:=congrArg List.length e;rw [List.length_map] at e2;have e3:((redL f n (pis f n n 0)).filter fun p=>decide (p.f0=(i:Int))).length=(folI f n i).length:=e2;rw [<-List.countP_eq_length_filter] at e3;have m1:(y:Int) ∈ folI f n i:=folI_mem.2 ⟨y,hy,h1,rfl⟩;have m2:(y':Int) ∈ folI f n i:=folI_mem.2 ⟨y',hy',h2,rfl⟩;generalize folI f n i=l at e3 m1 m2
 match l,m1,m2 with
 | [a],m1,m2=>
  have a1:=List.mem_singleton.1 m1;have a2:=List.mem_singleton.1 m2;omega
 | _::_::_,_,_=>simp at e3;omega
theorem tails_loop {jobs:List J} {m:Int} {E:List A2} (hj8:jobs.length<=8) (plan best:List PTask) (n:Int) (pairs:List A2) (labels:List Int) (two:List PTask) (one:Bool) (L:List A2) (hL:L.length<=10000) (a b:Int) (ea:Ev (fun k=>impl_PlanLength.f k jobs m E plan) (a,true)) (eb:Ev (fun k=>impl_PlanLength.f k jobs m E best) (b,true)) (hab:b<=a) (ht:(∀ j,j<jobs.length->TreeAt jobs L j)->a=b) (hj3:Ev (fun k=>laws_FnTailsFirst.j3 k n pairs labels two one) true):∀ (c i:Nat) (t:Bool),i + c=jobs.length->(t=true->∀ j,j<i->TreeAt jobs L j)->Ev (fun k=>laws_FnTailsFirst.l0 k jobs m E plan best n pairs labels two one L t (i:Int)) true:=by
 intro c
 induction c with
 | zero=>
  intro i t hi htt;refine ev_go (fun k=>laws_FnTailsFirst.l0 (k + 1) jobs m E plan best n pairs labels two one L t (i:Int)) (fun _=>rfl) ?_;simp only [laws_FnTailsFirst.l0,if_neg (show ¬ (i:Int)<(jobs.length:Int) by omega)];refine ev_bind _ ea (ev_bind _ eb ?_);simp only [if_neg (show ¬ b>a by omega)];by_cases c1:t=true
  ·have hq:=ht fun j hj=>htt c1 j (by omega)
   simp only [if_pos c1,if_pos hq];exact hj3
  ·simp only [if_neg c1];exact hj3
 | succ c ih=>
  intro i t hi htt;have inner:=rev_ind (P:=fun x=>Ev (fun k=>laws_FnTailsFirst.l1 k jobs m E plan best n pairs labels two one L t (i:Int) (((L.take x).countP fun p=>decide (p.f0=(i:Int)):Nat):Int) (x:Int)) true) L.length ?_ ?_ 0 (Nat.zero_le _)
  ·refine ev_go _ (fun k=>?_) inner;simp only [laws_FnTailsFirst.l0];rw [if_pos (by omega)];rfl
  ·rw [List.take_of_length_le (Nat.le_refl _)];by_cases c1:t=true
   ·by_cases c2:L.countP (fun p=>decide (p.f0=(i:Int)))<=1
    ·refine ev_go _ (fun k=>?_) (ih (i + 1) ((rd_T44 jobs (i:Int)).f0 == 1) (by omega) fun hq j hj=>?_)
     ·simp only [laws_FnTailsFirst.l1];rw [if_neg (by omega),if_pos c1,if_pos (by omega),if_pos (by omega),if_pos (by omega),wr1 (by omega)]
     ·by_cases e:j=i
      ·subst e;exact ⟨c2,by unfold tmI;simpa using hq⟩
      ·exact htt c1 j (by omega)
    ·refine ev_go _ (fun k=>?_) (ih (i + 1) false (by omega) fun hq=>by cases hq);simp only [laws_FnTailsFirst.l1];rw [if_neg (by omega),if_pos c1,if_neg (by omega),wr1 (by omega)]
   ·refine ev_go _ (fun k=>?_) (ih (i + 1) false (by omega) fun hq=>by cases hq);simp only [laws_FnTailsFirst.l1];rw [if_neg (by omega),if_neg c1,wr1 (by omega)]
  ·intro x hx ihx;have hc:=List.countP_le_length (p:=fun p:A2=>decide (p.f0=(i:Int))) (l:=L.take x);rw [List.length_take] at hc;rw [List.take_succ_eq_append_getElem hx,List.countP_append] at ihx;have hr:rd_T42 L (x:Int)=L[x]:=rdA2 hx;by_cases e:L[x].f0=(i:Int)
   ·rw [List.countP_cons_of_pos (by simpa using e),List.countP_nil] at ihx;refine ev_go _ (fun k=>?_) ihx;simp only [laws_FnTailsFirst.l1];rw [if_pos (by omega),if_pos (by omega),hr,if_pos e,wr1 (by omega),wr1 (by omega)]
   ·rw [List.countP_cons_of_neg (by simpa using e),List.countP_nil,Nat.add_zero] at ihx;refine ev_go _ (fun k=>?_) ihx;simp only [laws_FnTailsFirst.l1];rw [if_pos (by omega),if_pos (by omega),hr,if_neg e,wr1 (by omega)]
theorem units_loop {n:Nat} (hn:n<=8) {pairs:List A2} {labels:List Int} {two best:List PTask} (hl:labels.length=n) (hall:∀ u:Nat,1<=u->u<n + 1->∃ i:Nat,i<n/\rd labels (i:Int)=(u:Int)) {a:Int} (eb:Ev (fun k=>impl_BestListPlan.f k (List.replicate n oneJ) 2 pairs) (best,true)) (e1:Ev (fun k=>impl_PlanLength.f k (List.replicate n oneJ) 2 pairs two) (a,true)) (e2:Ev (fun k=>impl_PlanLength.f k (List.replicate n oneJ) 2 pairs best) (a,true)):∀ (c i:Nat),i + c=n->Ev (fun k=>laws_FnTailsFirst.l2 k (n:Int) pairs labels two (List.replicate i oneJ) (i:Int)) true:=by
 intro c
 induction c with
 | zero=>
  intro i hi;obtain rfl:i=n:=by omega
  refine ev_go (fun k=>laws_FnTailsFirst.l2 (k + 1) (i:Int) pairs labels two (List.replicate i oneJ) (i:Int)) (fun _=>rfl) ?_;simp only [laws_FnTailsFirst.l2,if_neg (show ¬ (i:Int)<(i:Int) by omega)];refine ev_bind _ eb (ev_bind _ e1 (ev_bind _ e2 ?_));simp only [if_true,beq_self_eq_true];exact Ev.now _
 | succ c ih=>
  intro i hi;obtain ⟨x,hx,hv⟩:=hall (i + 1) (by omega) (by omega);refine ev_go (fun k=>(laws_vHas.f k labels ((i + 1:Nat):Int)).bind fun t=>if t=true then laws_FnTailsFirst.l2 k (n:Int) pairs labels two (List.replicate (i + 1) oneJ) ((i + 1:Nat):Int) else some false) (fun k=>?_) (ev_bind _ (laws_vHas.ok (by omega) (show x<labels.length by omega) hv) (by simp only [if_true];exact ih (i + 1) (by omega)));simp only [laws_FnTailsFirst.l2];rw [if_pos (by omega),if_pos (by simp;omega),wr1 (by omega),List.replicate_succ']
  rfl
theorem FnTailsFirst (l0:List Int) (h0:l0.length<=maxLen/\∀ x ∈ l0,(Lit.int .u8 x).wf=true):∃ k,laws_FnTailsFirst.f k l0=some true:=by
 refine Ev.rounds (g:=fun k=>laws_FnTailsFirst.f k l0) ?_;unfold laws_FnTailsFirst.f laws_vBig.f;simp only [Option.bind_some];by_cases hb:decide ((l0.length:Int)>65536)=true
 ·simp only [if_pos hb];exact Ev.now _
 simp only [if_neg hb];have hb2:¬ (l0.length:Int)>65536:=fun h=>hb (decide_eq_true h)
 obtain ⟨jobs,m,E,hd,hjl,hEl,hmm⟩:=spec_DrawTailsFirst.tot (s:=l0) h0.2;obtain ⟨cut,hcut,hcb⟩:=laws_vCut.some (l:=l0) (by omega) h0.2 1 (by omega);obtain ⟨n,pairs,hd2,hnn,hpl⟩:=spec_DrawLabelsOf.tot hcb
  -- the plans
 obtain ⟨plan,ok,ps,pi,hok,hpll⟩:∃ plan ok,Ev (fun k=>spec_TailsFirst.f k jobs m E) (plan,ok)/\Ev (fun k=>impl_TailsFirst.f k jobs m E) (plan,ok)/\(ParOk jobs m E->plan=planC jobs m E (sortN (fallLt (tailsL jobs (cloF jobs.length E))) jobs.length))/\plan.length<=1000000:=by
  by_cases hr:ParOk jobs m E
  ·obtain ⟨p1,p2,p3⟩:=planC_spec hr (sortN_isPerm (fallLt (tailsL jobs (cloF jobs.length E))) jobs.length);obtain ⟨q1,q2⟩:=TF_ok hr p2 p3;exact ⟨_,true,q1,q2,fun _=>rfl,by have:=p1.1;omega⟩
  ·obtain ⟨q1,q2⟩:=TF_no (by omega) (by omega) hr;exact ⟨_,false,q1,q2,fun h=>absurd h hr,by simp⟩
 obtain ⟨best,fine,bs,bi,hbl⟩:=core_BestListPlan jobs m E (by omega) (wf_small (by omega)) (by omega);have hbest:fine=true->ParOk jobs m E/\∃ b,IsPerm jobs.length b/\(∀ l,IsPerm jobs.length l->lenC jobs m E b<=lenC jobs m E l)/\best=planC jobs m E b:=fun hf=>by
  by_cases hr:ParOk jobs m E
  ·by_cases h6:jobs.length<=6
   ·obtain ⟨b,b1,b2,b3⟩:=best_fold hr;have:=ev_uniq bi (b3 h6);exact ⟨hr,b,b1,b2,congrArg Prod.fst this⟩
   ·have:=congrArg Prod.snd (ev_uniq bi (best_none hr h6));rw [hf] at this;cases this
  ·have e:Ev (fun k=>impl_BestListPlan.f k jobs m E) ([],false):=by
    unfold impl_BestListPlan.f;exact ev_guard' (impl_isParallel.ev jobs m E (by omega) (by omega)) (fun h=>absurd h hr) (fun _=>Ev.now _)
   have:=congrArg Prod.snd (ev_uniq bi e);rw [hf] at this;cases this
  -- the labels
 obtain ⟨labels,there,two,one,ls,li,ts,ti,hll,htl,hlast⟩:∃ (labels:List Int) (there:Bool) (two:List PTask) (one:Bool),Ev (fun k=>spec_LabelsOf.f k n pairs) (labels,there)/\Ev (fun k=>impl_LabelsOf.f k n pairs) (labels,there)/\Ev (fun k=>spec_LabelPlan.f k n pairs) (two,one)/\Ev (fun k=>impl_LabelPlan.f k n pairs) (two,one)/\labels.length<=1000000/\two.length<=1000000/\Ev (fun k=>laws_FnTailsFirst.j3 k n pairs labels two one) true:=by
  by_cases hp:PrecOk n pairs
  ·have h8:=hp.1.1;obtain ⟨n,rfl⟩:=Int.eq_ofNat_of_zero_le h8.1;obtain ⟨r,r1,r2,r3,r4,r5⟩:=labels_ev hp;have hlen:(List.replicate n oneJ).length=n:=List.length_replicate;have hP:ParOk (List.replicate n oneJ) ((2:Nat):Int) pairs:=⟨⟨units_ok (by omega),fun j hj=>by rw [List.mem_replicate] at hj;rw [hj.2];rfl⟩,by omega,by rw [hlen];exact hp⟩;have hu:∀ j:Nat,j<(List.replicate n oneJ).length->tmI (List.replicate n oneJ) (j:Int)=1:=fun j hj=>by
    unfold tmI;rw [rdJ hj,List.getElem_replicate];rfl
   have hw:=sortN_isPerm (fallLt r) n;have hw2:IsPerm (List.replicate n oneJ).length (sortN (fallLt r) n):=by rw [hlen];exact hw
   obtain ⟨p1,p2,p3⟩:=planC_spec hP hw2;obtain ⟨q1,q2⟩:=LP_ok (by omega) hp r1 r2 r3 p2 p3;refine ⟨r,true,planC (List.replicate n oneJ) ((2:Nat):Int) pairs (sortN (fallLt r) n),true,?_,?_,q1,q2,by omega,by have:=p1.1;omega,?_⟩
   ·unfold spec_LabelsOf.f;exact ev_guard' (spec_l4Good.ev (n:Int) pairs (wf_small (by omega)) (by omega)) (fun _=>ev_bind _ r1 (Ev.now _)) (fun hn=>absurd hp hn)
   ·unfold impl_LabelsOf.f;exact ev_guard' (impl_IsPrecedence.ev (n:Int) pairs (by omega)) (fun _=>ev_bind _ r2 (Ev.now _)) (fun hn=>absurd hp hn)
   ·by_cases h6:n<=6
    ·obtain ⟨b,b1,b2,b3⟩:=best_fold hP;obtain ⟨c1,_,_⟩:=planC_spec hP b1;have hb1:=b2 _ hw2;have hb2:lenQ (List.replicate n oneJ) (planC (List.replicate n oneJ) ((2:Nat):Int) pairs (sortN (fallLt r) (List.replicate n oneJ).length)) 0 0<=lenQ (List.replicate n oneJ) (planC (List.replicate n oneJ) ((2:Nat):Int) pairs b) 0 0:=label_best hP hu (L:=r) (by rw [hlen];exact r4) (by rw [hlen];exact r5) b1;rw [hlen] at hb2;have e1:=planLength_ls hP p1 (planC_ls hP hw2);have e2:=planLength_ls hP c1 (planC_ls hP b1);have heq:lenQ (List.replicate n oneJ) (planC (List.replicate n oneJ) ((2:Nat):Int) pairs b) 0 0=lenQ (List.replicate n oneJ) (planC (List.replicate n oneJ) ((2:Nat):Int) pairs (sortN (fallLt r) n)) 0 0:=Int.le_antisymm hb1 hb2;rw [heq] at e2;have hl2:=units_loop (by omega) r3 r4.all (b3 (by rw [hlen];exact h6)) e1 e2 n 0 (by omega);refine ev_go (fun k=>laws_FnTailsFirst.j4 k (n:Int) pairs r (planC (List.replicate n oneJ) ((2:Nat):Int) pairs (sortN (fallLt r) n)) false) (fun k=>?_) (ev_go _ (fun k=>?_) hl2)
     ·simp only [laws_FnTailsFirst.j3];rw [if_pos trivial,decide_eq_false (by omega)]
     ·simp only [laws_FnTailsFirst.j4];rw [if_neg (by decide)];rfl
    ·refine ev_go (fun k=>laws_FnTailsFirst.j4 k (n:Int) pairs r (planC (List.replicate n oneJ) ((2:Nat):Int) pairs (sortN (fallLt r) n)) true) (fun k=>?_) (ev_stop fun k=>?_)
     ·simp only [laws_FnTailsFirst.j3];rw [if_pos trivial,decide_eq_true (by omega)]
     ·simp only [laws_FnTailsFirst.j4];rw [if_pos trivial]
  ·obtain ⟨q1,q2⟩:=LP_no (n:=n) (wf_small (by omega)) (by omega) hp;refine ⟨[],false,[],false,?_,?_,q1,q2,by simp,by simp,?_⟩
   ·unfold spec_LabelsOf.f;exact ev_guard' (spec_l4Good.ev n pairs (wf_small (by omega)) (by omega)) (fun h=>absurd h hp) (fun _=>Ev.now _)
   ·unfold impl_LabelsOf.f;exact ev_guard' (impl_IsPrecedence.ev n pairs (by omega)) (fun h=>absurd h hp) (fun _=>Ev.now _)
   ·refine ev_go (fun k=>laws_FnTailsFirst.j4 k n pairs [] [] true) (fun k=>?_) (ev_stop fun k=>?_)
    ·simp only [laws_FnTailsFirst.j3];rw [if_neg (by decide)]
    ·simp only [laws_FnTailsFirst.j4];rw [if_pos trivial]
 refine ev_bind _ hd (ev_bind _ pi (ev_bind _ ps (ev_bind _ bi (ev_bind _ bs ?_))));simp only [hcut,Option.bind_some];refine ev_bind _ hd2 (ev_bind _ li (ev_bind _ ls (ev_bind _ ti (ev_bind _ ts ?_))));simp only [bne_self_eq_false,Bool.false_eq_true,if_false];refine ev_bind _ (laws_vTasks.same plan (by omega)) ?_;simp only [if_true];refine ev_bind _ (laws_vTasks.same best (by omega)) ?_;simp only [if_true];refine ev_bind _ (laws_vInts.same2 labels hll) ?_;simp only [if_true];refine ev_bind _ (laws_vTasks.same two (by omega)) ?_;refine ev_go (fun k=>laws_FnTailsFirst.j0 (k + 1) jobs m E plan best fine n pairs labels two one false) (fun _=>rfl) ?_;simp only [laws_FnTailsFirst.j0,Bool.false_eq_true,if_false];by_cases hf:fine=true
 ·simp only [if_pos hf];obtain ⟨hr,b,b1,b2,hbe⟩:=hbest hf;have hj:=hr.1.1;have h8:=hj.1;have h28:=hr.2.2.1.2.1;have hw:=sortN_isPerm (fallLt (tailsL jobs (cloF jobs.length E))) jobs.length;obtain ⟨mm,rfl⟩:=Int.eq_ofNat_of_zero_le (show 0<=m by have:=hr.2.1;omega);obtain ⟨p1,_,_⟩:=planC_spec hr hw;obtain ⟨c1,_,_⟩:=planC_spec hr b1;have ea:=planLength_ls hr p1 (planC_ls hr hw);have eb:=planLength_ls hr c1 (planC_ls hr b1);have hle:=b2 _ hw;rw [hok hr,hbe];have hred:Ev (fun k=>impl_PrecedenceReduction.f k (jobs.length:Int) E) (redL (cloF jobs.length E) jobs.length (pis (cloF jobs.length E) jobs.length jobs.length 0),true):=by
   unfold impl_PrecedenceReduction.f;exact ev_guard' (impl_IsPrecedence.ev (jobs.length:Int) E (by omega)) (fun _=>ev_bind _ (impl_closure.ev jobs.length E (by omega) (by omega) (PairsOk.edg hr.2.2.1.2.2)) (ev_bind _ (impl_reduction.ev (by omega)) (Ev.now _))) (fun hn=>absurd hr.2.2 hn)
  have hL:(redL (cloF jobs.length E) jobs.length (pis (cloF jobs.length E) jobs.length jobs.length 0)).length<=10000:=by
   have h1:=List.length_filter_le (fun p:A2=>dirR (cloF jobs.length E) p.f0.toNat p.f1.toNat jobs.length 0 true) (pis (cloF jobs.length E) jobs.length jobs.length 0);have h2:=pis_len (cloF jobs.length E) jobs.length jobs.length 0;have h3:jobs.length * jobs.length<=8 * 8:=Nat.mul_le_mul h8 h8;unfold redL;omega
  refine ev_bind _ hred ?_;exact tails_loop h8 _ _ n pairs labels two one _ hL _ _ ea eb hle (fun ht=>Int.le_antisymm (tails_best hr (fun j hj=>(ht j hj).2) (fun i y y' hi hy hy' d1 d2=>tree_uniq hi (ht i hi).1 hy hy' d1 d2) b1) hle) hlast jobs.length 0 true (by omega) (fun _ j hj=>by omega)
 ·simp only [if_neg hf];exact hlast
