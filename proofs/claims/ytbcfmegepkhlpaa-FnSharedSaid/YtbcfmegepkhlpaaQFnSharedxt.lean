/- Proved here: what functions that the law FnShared reaches answer (sharedP, sharedS, sharedI, sharedL, sharedW, sharedB, sharedD). Conditions: those that each theorem names. -/
import Derived.Test.YtbcfmegepkhlpaaQFnSharedxe
set_option linter.unusedVariables false
set_option linter.unusedSimpArgs false
namespace Go.Proofs.Ytbcfmegepkhlpaa.Pure
open Go.RowKit Go.Proofs.Ytbcfmegepkhlpaa.XFnShared Go.Proofs.YtbcfmegepkhlpaaW.PrintWords Go.Proofs.YtbcfmegepkhlpaaW.PrintLast

/-- spans of one machine, from a time on -/
def RowP (n:Int):Int→List PSpan→Prop
 | _,[]=>True
 | now,s::ss=>((0≤s.f0∧s.f0<n)∧now≤s.f1∧s.f1<s.f2∧s.f2≤1000)∧RowP n s.f2 ss
/-- two spans of one job don't overlap -/
def Apa (p q:PSpan):Prop:=¬ (p.f0=q.f0∧p.f2>q.f1∧q.f2>p.f1)
def timeOf (j:Int):List PSpan→Int
 | []=>0
 | s::ss=>(if s.f0=j then s.f2 - s.f1 else 0) + timeOf j ss
def SpIn (n:Int) (s:PSpan):Prop:=(0≤s.f0∧s.f0<n)∧0≤s.f1∧s.f1<s.f2∧s.f2≤1000
theorem timeOf_app (j:Int):∀ D E:List PSpan,timeOf j (D++E)=timeOf j D + timeOf j E
 | [],E=>by simp [timeOf]
 | s::D,E=>by rw [List.cons_append,timeOf,timeOf,timeOf_app j D E,Int.add_assoc]
theorem timeOf_in {n:Int} (j:Int):∀ D:List PSpan,(∀ s ∈ D,SpIn n s)→0≤timeOf j D∧timeOf j D≤1000 * (D.length:Int)
 | [],_=>by simp [timeOf]
 | s::D,h=>by
  have h1:=h s List.mem_cons_self
  have h2:=timeOf_in j D (fun t ht=>h t (List.mem_cons_of_mem _ ht))
  obtain ⟨_,h3,h4,h5⟩:=h1
  rw [timeOf,List.length_cons]
  split <;> omega
theorem rowP_in {n:Int} : ∀ (l:List PSpan) (now:Int),0≤now→RowP n now l→∀ s ∈ l,SpIn n s
 | [],_,_,_,s,hs=>by cases hs
 | x::l,now,h0,h,s,hs=>by
  obtain ⟨⟨h1,h2,h3,h4⟩,h5⟩:=h
  rcases List.mem_cons.1 hs with rfl|hs
  ·exact ⟨h1,by omega,h3,h4⟩
  ·exact rowP_in l x.f2 (by omega) h5 s hs
def tmL (n:Nat) (D:List PSpan):List Int:=(List.range n).map fun j:Nat=>timeOf (j:Int) D
theorem tmL_len (n:Nat) (D:List PSpan):(tmL n D).length=n:=by simp [tmL]
theorem tmL_rd {n:Nat} {D:List PSpan} {j:Nat} (h:j<n):rd (tmL n D) (j:Int)=timeOf (j:Int) D:=by
 rw [rd_nat (by rw [tmL_len];exact h)];simp [tmL]
theorem tmL_nil (n:Nat):tmL n []=List.replicate n 0:=by
 refine List.ext_getElem (by simp [tmL]) fun i h1 h2=>?_
 simp [tmL,timeOf]
theorem tmL_set {n:Nat} {D:List PSpan} {s:PSpan} (h:0≤s.f0∧s.f0<(n:Int)) {v:Int} (hv:v=timeOf s.f0 D + (s.f2 - s.f1)):(tmL n D).set s.f0.toNat v=tmL n (D++[s]):=by
 refine List.ext_getElem (by simp [tmL]) fun i h1 h2=>?_
 rw [List.getElem_set]
 have e2:(tmL n (D++[s]))[i]=timeOf (i:Int) D + (if s.f0=(i:Int) then s.f2 - s.f1 else 0):=by
  simp only [tmL,List.getElem_map,List.getElem_range,timeOf_app,timeOf,Int.add_zero]
 rw [e2]
 by_cases e:s.f0.toNat=i
 ·have e3:s.f0=(i:Int):=by omega
  rw [if_pos e,if_pos e3,hv,e3]
 ·rw [if_neg e,if_neg (by omega),Int.add_zero]
  simp [tmL]
/-- a span is apart from those of the machines ahead -/
def ApB (spans:List (List PSpan)) (b:Nat) (p:PSpan):Prop:=∀ a:Nat,a<b→∀ z:Nat,z<(rd_L7 spans (a:Int)).length→Apa p (rd_T116 (rd_L7 spans (a:Int)) (z:Int))
def RowsP (n:Int) (spans:List (List PSpan)):Prop:=∀ b:Nat,b<spans.length→RowP n 0 (rd_L7 spans (b:Int))
def FarP (spans:List (List PSpan)):Prop:=∀ b:Nat,b<spans.length→∀ p ∈ rd_L7 spans (b:Int),ApB spans b p
def SumsP (jobs:List J) (D:List PSpan):Prop:=∀ i:Nat,i<jobs.length→timeOf (i:Int) D=(rd_T76 jobs (i:Int)).f0
def SharedP (jobs:List J) (spans:List (List PSpan)):Prop:=RowsP jobs.length spans∧FarP spans∧SumsP jobs spans.flatten

theorem spec_l3Job.eqS (jobs:List J) (a:Int) (h:jobs.length≤1000000000):spec_l3Job.f jobs a=some (decide (0≤a∧a≤(jobs.length:Int) - 1)):=by
 unfold spec_l3Job.f
 rw [wr (by omega) (by omega),spec_l1In.eq];rfl
theorem evB_and {e g:Nat→Option Bool} {P R:Prop} (he:EvB e P) (hR:EvB g R):EvB (fun k=>(e k).bind fun t=>if t=true then g k else some false) (P∧R):=by
 by_cases hp:P
 ·exact evB_of (fun h=>ev_bind true (evB_true he hp) (by simp only [if_true];exact evB_true hR h.2)) (fun h=>ev_bind true (evB_true he hp) (by simp only [if_true];exact evB_false hR (fun r=>h ⟨hp,r⟩)))
 ·exact evB_of (fun h=>absurd h.1 hp) (fun _=>ev_bind false (evB_false he hp) (by simp only [Bool.false_eq_true,if_false];exact Ev.now _))
theorem spec_l7Apart.ev (a0 a1 a2:Int) (row:List PSpan) (hl:row.length≤1000000):EvB (fun k=>spec_l7Apart.f k a0 a1 a2 row) (∀ z:Nat,z<row.length→Apa ⟨a0,a1,a2⟩ (rd_T116 row (z:Int))):=by
 have key:=evB_loop row.length (fun i k=>spec_l7Apart.l0 k row (i:Int) a0 a1 a2) (fun i=>Apa ⟨a0,a1,a2⟩ (rd_T116 row (i:Int))) True ⟨true,ev_stop fun k=>by simp only [spec_l7Apart.l0];rw [if_neg (by omega)],by simp⟩ (fun i hi R hR=>?_)
 ·exact evB_iff key (by simp)
 ·refine evB_leaf _ (fun hP k=>?_) (fun hP k=>?_) hR
  ·simp only [spec_l7Apart.l0]
   rw [if_pos (by omega),if_pos (by omega),wr1 (by omega)]
   by_cases c1:(rd_T116 row (i:Int)).f0=a0
   ·rw [if_pos c1]
    by_cases c2:(rd_T116 row (i:Int)).f1<a2
    ·rw [if_pos c2]
     by_cases c3:a1<(rd_T116 row (i:Int)).f2
     ·exact absurd ⟨c1.symm,c2,c3⟩ hP
     ·rw [if_neg c3]
    ·rw [if_neg c2]
   ·rw [if_neg c1]
  ·have hP2:=Classical.not_not.1 hP
   obtain ⟨c1,c2,c3⟩:=hP2
   simp only [spec_l7Apart.l0]
   rw [if_pos (by omega),if_pos (by omega),if_pos c1.symm,if_pos c2,if_pos c3]
theorem spec_row (jobs:List J) (hj:jobs.length≤1000) (spans:List (List PSpan)) (hs:spans.length≤1000) (hw:∀ a:Nat,a<spans.length→(rd_L7 spans (a:Int)).length≤10000) (b:Nat) (hb:b<spans.length) (Q:Prop) :
  ∀ (c i:Nat) (D:List PSpan) (now:Int),i + c=(rd_L7 spans (b:Int)).length→(∀ s ∈ D,SpIn jobs.length s)→0≤now→D.length + c≤100000000→
  ((∀ s ∈ D++(rd_L7 spans (b:Int)).drop i,SpIn jobs.length s)→EvB (fun k=>spec_l7Shared.l0 k jobs spans (tmL jobs.length (D++(rd_L7 spans (b:Int)).drop i)) ((b + 1:Nat):Int)) Q)→
  EvB (fun k=>spec_l7Shared.l1 k jobs spans (tmL jobs.length D) (b:Int) now (i:Int)) ((RowP jobs.length now ((rd_L7 spans (b:Int)).drop i)∧∀ p ∈ (rd_L7 spans (b:Int)).drop i,ApB spans b p)∧Q)
 | 0,i,D,now,hi,hD,h0,hlen,next=>by
  rw [List.drop_of_length_le (by omega)] at next ⊢
  rw [List.append_nil] at next
  have hN:=next hD
  refine evB_iff (evB_step _ (fun k=>?_) hN) ⟨fun q=>⟨⟨trivial,fun p hp=>by cases hp⟩,q⟩,fun q=>q.2⟩
  simp only [spec_l7Shared.l1]
  rw [if_pos (by omega),if_pos (by omega),if_neg (by omega),wr1 (by omega)]
 | c + 1,i,D,now,hi,hD,h0,hlen,next=>by
  have hrl:=hw b hb
  obtain ⟨row,hrow⟩:∃ row,row=rd_L7 spans (b:Int):=⟨_,rfl⟩
  rw [←hrow] at hrl next hi ⊢
  have hil:i<row.length:=by omega
  obtain ⟨s,hs0⟩:∃ s,s=row[i]:=⟨_,rfl⟩
  have hdrop:row.drop i=s::row.drop (i + 1):=by rw [hs0];exact drop_cons hil
  have hrs:rd_T116 row (i:Int)=s:=by rw [hs0];exact rdPSpan hil
  rw [hdrop] at next ⊢
  have goal:=evB_condC (g:=fun k=>spec_l7Shared.l1 k jobs spans (tmL jobs.length D) (b:Int) now (i:Int)) (fun k=>spec_l7Shared.j2 k jobs spans (tmL jobs.length D) (b:Int) (i:Int) false s.f0 s.f1 s.f2) (C:=(0≤s.f0∧s.f0<(jobs.length:Int))∧now≤s.f1∧s.f1<s.f2∧s.f2≤1000) (R:=ApB spans b s∧((RowP jobs.length s.f2 (row.drop (i + 1))∧∀ p ∈ row.drop (i + 1),ApB spans b p)∧Q)) ?_ ?_ ?_
  ·refine evB_iff goal ⟨fun q=>?_,fun q=>?_⟩
   ·obtain ⟨q1,q2,⟨q3,q4⟩,q5⟩:=q
    exact ⟨⟨⟨q1,q3⟩,fun p hp=>by rcases List.mem_cons.1 hp with rfl|hp;exact q2;exact q4 p hp⟩,q5⟩
   ·obtain ⟨⟨⟨q1,q3⟩,q4⟩,q5⟩:=q
    exact ⟨q1,q4 s List.mem_cons_self,⟨q3,fun p hp=>q4 p (List.mem_cons_of_mem _ hp)⟩,q5⟩
  ·rintro ⟨c1,c2,c3,c4⟩ k
   simp only [spec_l7Shared.l1]
   rw [if_pos (by omega),if_pos (by omega),←hrow,if_pos (by omega),if_pos (by omega),hrs,spec_l3Job.eqS jobs _ (by omega),Option.bind_some,if_pos (decide_eq_true (by omega)),if_neg (by omega),if_neg (by omega),decide_eq_false (by omega)]
  ·intro hn
   refine ev_go (fun k=>spec_l7Shared.j2 k jobs spans (tmL jobs.length D) (b:Int) (i:Int) true s.f0 s.f1 s.f2) (fun k=>?_) (ev_stop fun k=>by simp only [spec_l7Shared.j2];rw [if_pos trivial])
   simp only [spec_l7Shared.l1]
   rw [if_pos (by omega),if_pos (by omega),←hrow,if_pos (by omega),if_pos (by omega),hrs,spec_l3Job.eqS jobs _ (by omega),Option.bind_some]
   by_cases d1:0≤s.f0∧s.f0≤(jobs.length:Int) - 1
   ·rw [if_pos (decide_eq_true d1)]
    by_cases d2:s.f1<now
    ·rw [if_pos d2]
    ·rw [if_neg d2]
     by_cases d3:s.f2≤s.f1
     ·rw [if_pos d3]
     ·rw [if_neg d3,decide_eq_true (show s.f2>1000 from Classical.byContradiction fun h=>hn ⟨by omega,by omega,by omega,by omega⟩)]
   ·rw [if_neg (by rw [decide_eq_false d1];decide)]
  ·rintro ⟨c1,c2,c3,c4⟩
   have hsp:SpIn jobs.length s:=⟨c1,by omega,c3,c4⟩
   have hD2:∀ t ∈ D++[s],SpIn jobs.length t:=fun t ht=>by
    rcases List.mem_append.1 ht with ht|ht
    ·exact hD t ht
    ·rw [List.mem_singleton.1 ht];exact hsp
   have ih:=spec_row jobs hj spans hs hw b hb Q c (i + 1) (D++[s]) s.f2 (by rw [←hrow];omega) hD2 (by omega) (by rw [List.length_append,List.length_singleton];omega) (by
    rw [←hrow,List.append_assoc]
    exact next)
   rw [←hrow] at ih
   have key:=evB_loop b (fun a k=>spec_l7Shared.l2 k jobs spans (tmL jobs.length D) (b:Int) (i:Int) (a:Int) s.f0 s.f1 s.f2) (fun a=>∀ z:Nat,z<(rd_L7 spans (a:Int)).length→Apa s (rd_T116 (rd_L7 spans (a:Int)) (z:Int))) ((RowP jobs.length s.f2 (row.drop (i + 1))∧∀ p ∈ row.drop (i + 1),ApB spans b p)∧Q) ?_ ?_
   ·refine evB_step _ (fun k=>?_) key
    simp only [spec_l7Shared.j2]
    rw [if_neg (by decide)]
    rfl
   ·refine evB_step _ (fun k=>?_) ih
    have ht:=timeOf_in s.f0 D hD
    have hr:rd (tmL jobs.length D) s.f0=timeOf s.f0 D:=by
     have:=tmL_rd (D:=D) (n:=jobs.length) (j:=s.f0.toNat) (by omega)
     rwa [show ((s.f0.toNat:Nat):Int)=s.f0 by omega] at this
    simp only [spec_l7Shared.l2]
    rw [if_neg (by omega),if_pos (by omega),if_pos (by rw [tmL_len];omega),hr,wr (x:=timeOf s.f0 D + s.f2) (by omega) (by omega),wr (x:=timeOf s.f0 D + s.f2 - s.f1) (by omega) (by omega),wr1 (by omega),tmL_set c1 (by omega)]
   ·intro a ha R hR
    have e:=spec_l7Apart.ev s.f0 s.f1 s.f2 (rd_L7 spans (a:Int)) (by have:=hw a (by omega);omega)
    refine evB_step _ (fun k=>?_) (evB_and e hR)
    simp only [spec_l7Shared.l2]
    rw [if_pos (by omega),if_pos (by omega),if_pos (by omega),wr1 (by omega)]
theorem spec_l7Shared.ev (jobs:List J) (hj:jobs.length≤1000) (spans:List (List PSpan)) (hs:spans.length≤1000) (hw:∀ a:Nat,a<spans.length→(rd_L7 spans (a:Int)).length≤10000):EvB (fun k=>spec_l7Shared.f k jobs spans) (SharedP jobs spans):=by
 have sums:∀ D:List PSpan,EvB (fun k=>spec_l7Shared.l3 k jobs (tmL jobs.length D) 0) (SumsP jobs D):=fun D=>by
  have key:=evB_loop jobs.length (fun i k=>spec_l7Shared.l3 k jobs (tmL jobs.length D) (i:Int)) (fun i=>timeOf (i:Int) D=(rd_T76 jobs (i:Int)).f0) True ⟨true,ev_stop fun k=>by simp only [spec_l7Shared.l3];rw [if_neg (by omega)],by simp⟩ (fun i hi R hR=>?_)
  ·exact evB_iff key ⟨fun h=>h.1,fun h=>⟨h,trivial⟩⟩
  ·have hr:=tmL_rd (D:=D) hi
   refine evB_leaf _ (fun hP k=>?_) (fun hP k=>?_) hR
   ·simp only [spec_l7Shared.l3]
    rw [if_pos (by omega),if_pos (by omega),if_pos (by rw [tmL_len];omega),hr,if_pos hP,wr1 (by omega)]
   ·simp only [spec_l7Shared.l3]
    rw [if_pos (by omega),if_pos (by omega),if_pos (by rw [tmL_len];omega),hr,if_neg hP]
 have key:=rev_ind (P:=fun i=>∀ D:List PSpan,(∀ s ∈ D,SpIn jobs.length s)→D.length + 10000 * (spans.length - i)≤20000000→EvB (fun k=>spec_l7Shared.l0 k jobs spans (tmL jobs.length D) (i:Int)) ((∀ b:Nat,i≤b→b<spans.length→RowP jobs.length 0 (rd_L7 spans (b:Int))∧∀ p ∈ rd_L7 spans (b:Int),ApB spans b p)∧SumsP jobs (D++(spans.drop i).flatten))) spans.length ?_ ?_ 0 (Nat.zero_le _) [] (by simp) (by simp;omega)
 ·have e0:=tmL_nil jobs.length
  rw [e0] at key
  have key2:EvB (fun k=>spec_l7Shared.f k jobs spans) ((∀ b:Nat,0≤b→b<spans.length→RowP jobs.length 0 (rd_L7 spans (b:Int))∧∀ p ∈ rd_L7 spans (b:Int),ApB spans b p)∧SumsP jobs ([]++(spans.drop 0).flatten)):=by
   unfold spec_l7Shared.f
   simp only [if_pos (show 0≤(jobs.length:Int) by omega),Int.toNat_natCast,if_pos (show jobs.length≤35184372088832 by omega)]
   exact key
  exact evB_iff key2 ⟨fun h=>⟨fun b hb=>(h.1 b (Nat.zero_le _) hb).1,fun b hb=>(h.1 b (Nat.zero_le _) hb).2,by simpa using h.2⟩,fun h=>⟨fun b _ hb=>⟨h.1 b hb,h.2.1 b hb⟩,by simpa using h.2.2⟩⟩
 ·intro D hD hlen
  rw [List.drop_length,List.flatten_nil,List.append_nil]
  refine evB_iff (evB_step _ (fun k=>?_) (sums D)) ⟨fun h=>⟨fun b h1 h2=>absurd h1 (by omega),h⟩,fun h=>h.2⟩
  simp only [spec_l7Shared.l0]
  rw [if_neg (by omega)]
 ·intro i hi ih D hD hlen
  have hwi:=hw i hi
  have e:=rdLSS hi
  have go:=spec_row jobs hj spans hs hw i hi _ (rd_L7 spans (i:Int)).length 0 D 0 (by omega) hD (Int.le_refl _) (by omega) (fun h=>ih (D++(rd_L7 spans (i:Int))) (by simpa using h) (by rw [List.length_append];omega))
  rw [List.drop_zero] at go
  refine evB_iff (evB_step _ (fun k=>?_) go) ?_
  ·simp only [spec_l7Shared.l0]
   rw [if_pos (by omega)]
   rfl
  ·rw [drop_cons hi,List.flatten_cons,←List.append_assoc,←e]
   constructor
   ·rintro ⟨q1,q2,q3⟩
    exact ⟨fun b h1 h2=>by
     by_cases eb:b=i
     ·rw [eb];exact q1
     ·exact q2 b (by omega) h2,q3⟩
   ·rintro ⟨q1,q2⟩
    exact ⟨q1 i (Nat.le_refl _) hi,fun b h1 h2=>q1 b (by omega) h2,q2⟩

theorem impl_row (jobs:List J) (hj:jobs.length≤1000) (spans:List (List PSpan)) (hs:spans.length≤1000) (b:Nat) (hb:b<spans.length) (row:List PSpan) (hrl:row.length≤10000) (Q:Prop) :
  ∀ (c i:Nat) (D:List PSpan) (now:Int),i + c=row.length→(∀ s ∈ D,SpIn jobs.length s)→0≤now→(i=0→now=0)→(0<i→now=(rd_T116 row ((i:Int) - 1)).f2)→D.length + c≤100000000→
  ((∀ s ∈ D++row.drop i,SpIn jobs.length s)→EvB (fun k=>impl_isShared.l0 k jobs spans (tmL jobs.length (D++row.drop i)) spans (spans.length:Int) ((b + 1:Nat):Int)) Q)→
  EvB (fun k=>impl_isShared.l1 k jobs spans (tmL jobs.length D) row spans (spans.length:Int) (b:Int) row (row.length:Int) (i:Int)) (RowP jobs.length now (row.drop i)∧Q)
 | 0,i,D,now,hi,hD,h0,hn0,hn1,hlen,next=>by
  rw [List.drop_of_length_le (by omega)] at next ⊢
  rw [List.append_nil] at next
  have hN:=next hD
  refine evB_iff (evB_step _ (fun k=>?_) hN) ⟨fun q=>⟨trivial,q⟩,fun q=>q.2⟩
  simp only [impl_isShared.l1]
  rw [if_neg (by omega),wr1 (by omega)]
 | c + 1,i,D,now,hi,hD,h0,hn0,hn1,hlen,next=>by
  have hil:i<row.length:=by omega
  obtain ⟨s,hs0⟩:∃ s,s=row[i]:=⟨_,rfl⟩
  have hdrop:row.drop i=s::row.drop (i + 1):=by rw [hs0];exact drop_cons hil
  have hrs:rd_T116 row (i:Int)=s:=by rw [hs0];exact rdPSpan hil
  rw [hdrop] at next ⊢
  have goal:=evB_condC (g:=fun k=>impl_isShared.l1 k jobs spans (tmL jobs.length D) row spans (spans.length:Int) (b:Int) row (row.length:Int) (i:Int)) (fun k=>impl_isShared.l1 k jobs spans (tmL jobs.length (D++[s])) row spans (spans.length:Int) (b:Int) row (row.length:Int) ((i + 1:Nat):Int)) (C:=(0≤s.f0∧s.f0<(jobs.length:Int))∧now≤s.f1∧s.f1<s.f2∧s.f2≤1000) (R:=RowP jobs.length s.f2 (row.drop (i + 1))∧Q) ?_ ?_ ?_
  ·exact evB_iff goal ⟨fun q=>⟨⟨q.1,q.2.1⟩,q.2.2⟩,fun q=>⟨q.1.1,q.1.2,q.2⟩⟩
  ·rintro ⟨c1,c2,c3,c4⟩ k
   have ht:=timeOf_in s.f0 D hD
   have hr:rd (tmL jobs.length D) s.f0=timeOf s.f0 D:=by
    have:=tmL_rd (D:=D) (n:=jobs.length) (j:=s.f0.toNat) (by omega)
    rwa [show ((s.f0.toNat:Nat):Int)=s.f0 by omega] at this
   simp only [impl_isShared.l1]
   rw [if_pos (by omega),if_pos (by omega),if_pos (by omega),hrs,impl_isNumber.eq _ _ (by omega) (by omega),Option.bind_some,if_pos (decide_eq_true c1),if_neg (by omega),if_neg (by omega),if_neg (by omega),hr,wr (x:=s.f2 - s.f1) (by omega) (by omega),wr (x:=timeOf s.f0 D + (s.f2 - s.f1)) (by omega) (by omega),tmL_set c1 rfl,wr1 (by omega),wr (x:=(i:Int) - 1) (by omega) (by omega),tmL_len]
   by_cases hi0:i=0
   ·rw [if_neg (by omega),if_pos (by omega),if_pos (by omega)]
   ·have:=hn1 (by omega)
    rw [if_pos (by omega),if_pos (by omega),if_pos (by omega),if_neg (by omega),if_pos (by omega),if_pos (by omega)]
  ·intro hn
   refine ev_stop fun k=>?_
   simp only [impl_isShared.l1]
   rw [if_pos (by omega),if_pos (by omega),if_pos (by omega),hrs,impl_isNumber.eq _ _ (by omega) (by omega),Option.bind_some]
   by_cases d1:0≤s.f0∧s.f0<(jobs.length:Int)
   ·rw [if_pos (decide_eq_true d1)]
    by_cases d2:s.f1<0
    ·rw [if_pos d2]
    ·rw [if_neg d2]
     by_cases d3:s.f1≥s.f2
     ·rw [if_pos d3]
     ·rw [if_neg d3]
      by_cases d4:s.f2>1000
      ·rw [if_pos d4]
      ·rw [if_neg d4]
       have d5:s.f1<now:=Classical.byContradiction fun h=>hn ⟨d1,by omega,by omega,by omega⟩
       have hi0:0<i:=Nat.pos_of_ne_zero fun h=>by have:=hn0 h;omega
       have:=hn1 hi0
       rw [if_pos (by omega),wr (x:=(i:Int) - 1) (by omega) (by omega),if_pos (by omega),if_pos (by omega),if_pos (by omega)]
   ·rw [if_neg (by rw [decide_eq_false d1];decide)]
  ·rintro ⟨c1,c2,c3,c4⟩
   have hsp:SpIn jobs.length s:=⟨c1,by omega,c3,c4⟩
   have hD2:∀ t ∈ D++[s],SpIn jobs.length t:=fun t ht=>by
    rcases List.mem_append.1 ht with ht|ht
    ·exact hD t ht
    ·rw [List.mem_singleton.1 ht];exact hsp
   exact impl_row jobs hj spans hs b hb row hrl Q c (i + 1) (D++[s]) s.f2 (by omega) hD2 (by omega) (fun h=>by omega) (fun _=>by rw [show ((i + 1:Nat):Int) - 1=(i:Int) by omega,hrs]) (by rw [List.length_append,List.length_singleton];omega) (by
    rw [List.append_assoc]
    exact next)
theorem rd_take {spans:List (List PSpan)} {a b:Nat} (h:a<b) (hb:b≤spans.length):rd_L7 (spans.take b) (a:Int)=rd_L7 spans (a:Int):=by
 rw [rdLSS (by rw [List.length_take];omega),rdLSS (by omega),List.getElem_take]
theorem impl_far (spans:List (List PSpan)) (hs:spans.length≤1000) (hw:∀ a:Nat,a<spans.length→(rd_L7 spans (a:Int)).length≤10000):EvB (fun k=>impl_isShared.l3 k spans spans (spans.length:Int) 0) (FarP spans):=by
 have key:=evB_loop spans.length (fun b k=>impl_isShared.l3 k spans spans (spans.length:Int) (b:Int)) (fun b=>∀ a:Nat,a<b→∀ y:Nat,y<(rd_L7 spans (b:Int)).length→∀ z:Nat,z<(rd_L7 spans (a:Int)).length→Apa (rd_T116 (rd_L7 spans (b:Int)) (y:Int)) (rd_T116 (rd_L7 spans (a:Int)) (z:Int))) True ⟨true,ev_stop fun k=>by simp only [impl_isShared.l3];rw [if_neg (by omega)],by simp⟩ ?_
 ·refine evB_iff key ⟨fun h b hb p hp a ha z hz=>?_,fun h=>⟨fun b hb a ha y hy z hz=>h b hb _ (by rw [rdPSpan hy];exact List.getElem_mem hy) a ha z hz,trivial⟩⟩
  obtain ⟨y,hy,rfl⟩:=List.getElem_of_mem hp
  rw [←rdPSpan hy]
  exact h.1 b hb a ha y hy z hz
 intro b hb R hR
 have hwb:=hw b hb
 obtain ⟨rb,hrb⟩:∃ r,r=rd_L7 spans (b:Int):=⟨_,rfl⟩
 rw [←hrb] at hwb ⊢
 have htl:((spans.take b).length:Int)=(b:Int):=by rw [List.length_take];omega
 have k4:=evB_loop b (fun a k=>impl_isShared.l4 k spans rb spans (spans.length:Int) (b:Int) (spans.take b) (b:Int) (a:Int)) (fun a=>∀ y:Nat,y<rb.length→∀ z:Nat,z<(rd_L7 spans (a:Int)).length→Apa (rd_T116 rb (y:Int)) (rd_T116 (rd_L7 spans (a:Int)) (z:Int))) R ?_ ?_
 ·refine evB_step _ (fun k=>?_) k4
  simp only [impl_isShared.l3]
  rw [if_pos (by omega),if_pos (by omega),if_pos (by omega),if_pos (by omega),Option.bind_some,Int.toNat_natCast,htl,←hrb]
  rfl
 ·refine evB_step _ (fun k=>?_) hR
  simp only [impl_isShared.l4]
  rw [if_neg (by omega),wr1 (by omega)]
 intro a ha R2 hR2
 have hwa:=hw a (by omega)
 have hra:=rd_take (spans:=spans) ha (by omega)
 obtain ⟨ra,hra2⟩:∃ r,r=rd_L7 spans (a:Int):=⟨_,rfl⟩
 rw [←hra2] at hwa hra ⊢
 have k5:=evB_loop rb.length (fun y k=>impl_isShared.l5 k spans rb ra spans (spans.length:Int) (b:Int) (spans.take b) (b:Int) (a:Int) rb (rb.length:Int) (y:Int)) (fun y=>∀ z:Nat,z<ra.length→Apa (rd_T116 rb (y:Int)) (rd_T116 ra (z:Int))) R2 ?_ ?_
 ·refine evB_step _ (fun k=>?_) k5
  simp only [impl_isShared.l4]
  rw [if_pos (by omega),if_pos (by omega),if_pos (by omega),hra]
  rfl
 ·refine evB_step _ (fun k=>?_) hR2
  simp only [impl_isShared.l5]
  rw [if_neg (by omega),wr1 (by omega)]
 intro y hy R3 hR3
 have k6:=evB_loop ra.length (fun z k=>impl_isShared.l6 k spans rb ra spans (spans.length:Int) (b:Int) (spans.take b) (b:Int) (a:Int) rb (rb.length:Int) (y:Int) ra (ra.length:Int) (z:Int) (rd_T116 rb (y:Int)).f0 (rd_T116 rb (y:Int)).f1 (rd_T116 rb (y:Int)).f2) (fun z=>Apa (rd_T116 rb (y:Int)) (rd_T116 ra (z:Int))) R3 ?_ ?_
 ·refine evB_step _ (fun k=>?_) k6
  simp only [impl_isShared.l5]
  rw [if_pos (by omega),if_pos (by omega),if_pos (by omega)]
  rfl
 ·refine evB_step _ (fun k=>?_) hR3
  simp only [impl_isShared.l6]
  rw [if_neg (by omega),wr1 (by omega)]
 intro z hz R4 hR4
 refine evB_leaf _ (fun hP k=>?_) (fun hP k=>?_) hR4
 ·simp only [impl_isShared.l6]
  rw [if_pos (by omega),if_pos (by omega),if_pos (by omega),wr1 (by omega)]
  by_cases c1:(rd_T116 rb (y:Int)).f0=(rd_T116 ra (z:Int)).f0
  ·rw [if_pos c1]
   by_cases c2:(rd_T116 rb (y:Int)).f2>(rd_T116 ra (z:Int)).f1
   ·rw [if_pos c2]
    by_cases c3:(rd_T116 ra (z:Int)).f2>(rd_T116 rb (y:Int)).f1
    ·exact absurd ⟨c1,c2,c3⟩ hP
    ·rw [if_neg c3]
   ·rw [if_neg c2]
  ·rw [if_neg c1]
 ·obtain ⟨c1,c2,c3⟩:=Classical.not_not.1 hP
  simp only [impl_isShared.l6]
  rw [if_pos (by omega),if_pos (by omega),if_pos (by omega),if_pos c1,if_pos c2,if_pos c3]
theorem impl_isShared.ev (jobs:List J) (hj:jobs.length≤1000) (spans:List (List PSpan)) (hs:spans.length≤1000) (hw:∀ a:Nat,a<spans.length→(rd_L7 spans (a:Int)).length≤10000):EvB (fun k=>impl_isShared.f k jobs spans) (SharedP jobs spans):=by
 have far:=impl_far spans hs hw
 have sums:∀ D:List PSpan,EvB (fun k=>impl_isShared.l2 k spans (tmL jobs.length D) jobs (jobs.length:Int) 0) (SumsP jobs D∧FarP spans):=fun D=>by
  refine evB_loop jobs.length (fun i k=>impl_isShared.l2 k spans (tmL jobs.length D) jobs (jobs.length:Int) (i:Int)) (fun i=>timeOf (i:Int) D=(rd_T76 jobs (i:Int)).f0) (FarP spans) (evB_step _ (fun k=>by simp only [impl_isShared.l2];rw [if_neg (by omega)]) far) (fun i hi R hR=>?_)
  have hr:=tmL_rd (D:=D) hi
  refine evB_leaf _ (fun hP k=>?_) (fun hP k=>?_) hR
  ·simp only [impl_isShared.l2]
   rw [if_pos (by omega),if_pos (by omega),if_pos (by omega),if_pos (by rw [tmL_len];omega),hr,if_pos hP,wr1 (by omega)]
  ·simp only [impl_isShared.l2]
   rw [if_pos (by omega),if_pos (by omega),if_pos (by omega),if_pos (by rw [tmL_len];omega),hr,if_neg hP]
 have key:=rev_ind (P:=fun i=>∀ D:List PSpan,(∀ s ∈ D,SpIn jobs.length s)→D.length + 10000 * (spans.length - i)≤20000000→EvB (fun k=>impl_isShared.l0 k jobs spans (tmL jobs.length D) spans (spans.length:Int) (i:Int)) ((∀ b:Nat,i≤b→b<spans.length→RowP jobs.length 0 (rd_L7 spans (b:Int)))∧SumsP jobs (D++(spans.drop i).flatten)∧FarP spans)) spans.length ?_ ?_ 0 (Nat.zero_le _) [] (by simp) (by simp;omega)
 ·have e0:=tmL_nil jobs.length
  rw [e0] at key
  have key2:EvB (fun k=>impl_isShared.f k jobs spans) ((∀ b:Nat,0≤b→b<spans.length→RowP jobs.length 0 (rd_L7 spans (b:Int)))∧SumsP jobs ([]++(spans.drop 0).flatten)∧FarP spans):=by
   unfold impl_isShared.f
   simp only [if_pos (show 0≤(jobs.length:Int) by omega),Int.toNat_natCast,if_pos (show jobs.length≤35184372088832 by omega)]
   exact key
  exact evB_iff key2 ⟨fun h=>⟨fun b hb=>h.1 b (Nat.zero_le _) hb,h.2.2,by simpa using h.2.1⟩,fun h=>⟨fun b _ hb=>h.1 b hb,by simpa using h.2.2,h.2.1⟩⟩
 ·intro D hD hlen
  rw [List.drop_length,List.flatten_nil,List.append_nil]
  refine evB_iff (evB_step _ (fun k=>?_) (sums D)) ⟨fun h=>⟨fun b h1 h2=>absurd h1 (by omega),h⟩,fun h=>h.2⟩
  simp only [impl_isShared.l0]
  rw [if_neg (by omega)]
 ·intro i hi ih D hD hlen
  have hwi:=hw i hi
  have e:=rdLSS hi
  have go:=impl_row jobs hj spans hs i hi (rd_L7 spans (i:Int)) hwi _ (rd_L7 spans (i:Int)).length 0 D 0 (by omega) hD (Int.le_refl _) (fun _=>rfl) (fun h=>by omega) (by omega) (fun h=>ih (D++(rd_L7 spans (i:Int))) (by simpa using h) (by rw [List.length_append];omega))
  rw [List.drop_zero] at go
  refine evB_iff (evB_step _ (fun k=>?_) go) ?_
  ·simp only [impl_isShared.l0]
   rw [if_pos (by omega),if_pos (by omega),if_pos (by omega)]
   rfl
  ·rw [drop_cons hi,List.flatten_cons,←List.append_assoc,←e]
   constructor
   ·rintro ⟨q1,q2,q3⟩
    exact ⟨fun b h1 h2=>by
     by_cases eb:b=i
     ·rw [eb];exact q1
     ·exact q2 b (by omega) h2,q3⟩
   ·rintro ⟨q1,q2⟩
    exact ⟨q1 i (Nat.le_refl _) hi,fun b h1 h2=>q1 b (by omega) h2,q2⟩

/-- the end of a row -/
def endF:Int→List PSpan→Int
 | now,[]=>now
 | _,s::ss=>endF s.f2 ss
theorem endF_snoc:∀ (l:List PSpan) (now:Int) (s:PSpan),endF now (l++[s])=s.f2
 | [],_,_=>rfl
 | x::l,_,s=>by rw [List.cons_append,endF,endF_snoc l]
theorem endF_at:∀ (l:List PSpan) (now:Int),endF now l=now∨∃ s ∈ l,endF now l=s.f2
 | [],_=>.inl rfl
 | x::l,now=>by
  rw [endF]
  rcases endF_at l x.f2 with h | ⟨s,hs,h⟩
  ·exact .inr ⟨x,List.mem_cons_self,h⟩
  ·exact .inr ⟨s,List.mem_cons_of_mem _ hs,h⟩
theorem endF_ge {n:Int} : ∀ (l:List PSpan) (now:Int),RowP n now l→now≤endF now l∧∀ s ∈ l,s.f2≤endF now l
 | [],now,_=>⟨Int.le_refl _,fun s hs=>by cases hs⟩
 | x::l,now,h=>by
  obtain ⟨⟨_,h2,h3,_⟩,h5⟩:=h
  obtain ⟨g1,g2⟩:=endF_ge l x.f2 h5
  rw [endF]
  exact ⟨by omega,fun s hs=>by
   rcases List.mem_cons.1 hs with rfl|hs
   ·exact g1
   ·exact g2 s hs⟩
theorem rowP_snoc {n:Int} : ∀ (l:List PSpan) (now:Int) (s:PSpan),RowP n now l→endF now l≤s.f1→((0≤s.f0∧s.f0<n)∧s.f1<s.f2∧s.f2≤1000)→RowP n now (l++[s])
 | [],now,s,_,h,hs=>⟨⟨hs.1,h,hs.2.1,hs.2.2⟩,trivial⟩
 | x::l,now,s,h,he,hs=>⟨h.1,rowP_snoc l x.f2 s h.2 he hs⟩
theorem timeOf_set (j:Int) (s:PSpan):∀ (out:List (List PSpan)) (a:Nat) (h:a<out.length),timeOf j (out.set a (out[a]++[s])).flatten=timeOf j out.flatten + timeOf j [s]
 | [],a,h=>by simp at h
 | x::out,0,_=>by
  simp only [List.set_cons_zero,List.getElem_cons_zero,List.flatten_cons,timeOf_app]
  omega
 | x::out,a + 1,h=>by
  simp only [List.set_cons_succ,List.getElem_cons_succ,List.flatten_cons,timeOf_app]
  rw [timeOf_set j s out a (by simpa using h)]
  omega
theorem rdLSp_set {out:List (List PSpan)} {a:Nat} (ha:a<out.length) (r:List PSpan) (b:Nat):rd_L7 (out.set a r) (b:Int)=if b=a then r else rd_L7 out (b:Int):=by
 by_cases e:b=a
 ·subst e
  rw [if_pos rfl,rdLSS (by rw [List.length_set];exact ha),List.getElem_set_self]
 ·rw [if_neg e]
  by_cases hb:b<out.length
  ·rw [rdLSS (by rw [List.length_set];exact hb),rdLSS hb,List.getElem_set_ne (fun h=>e h.symm)]
  ·simp [rd_L7,hb]
def tmS (jobs:List J) (j:Nat):Int:=(rd_T76 jobs (j:Int)).f0
/-- what holds of the plan while job i has r to go -/
structure WX (jobs:List J) (L:Int) (i:Nat) (r:Int) (out:List (List PSpan)) (a:Nat) (st:Int):Prop where
 rows:∀ b:Nat,b<out.length→RowP jobs.length 0 (rd_L7 out (b:Int))∧(b<a→endF 0 (rd_L7 out (b:Int))=L)∧(b=a→endF 0 (rd_L7 out (b:Int))=st)∧(a<b→rd_L7 out (b:Int)=[])
 far:FarP out
 cur:0<r→∀ b:Nat,b<out.length→∀ q ∈ rd_L7 out (b:Int),q.f0=(i:Int)→st + r≤q.f1
 old:∀ b:Nat,b<out.length→∀ q ∈ rd_L7 out (b:Int),q.f0≤(i:Int)
 sums:∀ j:Nat,timeOf (j:Int) out.flatten=if j<i then tmS jobs j else if j=i then tmS jobs i - r else 0
theorem WX.job {jobs:List J} {L st:Int} {i a:Nat} {out:List (List PSpan)} (h:WX jobs L i 0 out a st):WX jobs L (i + 1) (tmS jobs (i + 1)) out a st:=by
 refine ⟨h.rows,h.far,fun _ b hb q hq e=>?_,fun b hb q hq=>?_,fun j=>?_⟩
 ·have:=h.old b hb q hq;omega
 ·have:=h.old b hb q hq;omega
 ·rw [h.sums j]
  by_cases c1:j<i
  ·rw [if_pos c1,if_pos (by omega)]
  ·rw [if_neg c1]
   by_cases c2:j=i
   ·subst c2;rw [if_pos rfl,if_pos (by omega)];omega
   ·rw [if_neg c2,if_neg (by omega)]
    by_cases c3:j=i + 1
    ·rw [if_pos c3];omega
    ·rw [if_neg c3]
/-- what a step keeps -/
theorem wx_step {jobs:List J} {L st r p:Int} {i a:Nat} {out:List (List PSpan)} (h:WX jobs L i r out a st) (ha:a<out.length) (hr:0<r) (hp:1≤p∧p≤r) (h0:0≤st) (hE:st + p≤L) (hL:L≤1000) (hin:i<jobs.length) :
  (∀ b:Nat,b<(out.set a (rd_L7 out (a:Int)++[(⟨(i:Int),st,st + p⟩:PSpan)])).length→b≠a→rd_L7 (out.set a (rd_L7 out (a:Int)++[(⟨(i:Int),st,st + p⟩:PSpan)])) (b:Int)=rd_L7 out (b:Int))∧
  (rd_L7 (out.set a (rd_L7 out (a:Int)++[(⟨(i:Int),st,st + p⟩:PSpan)])) (a:Int)=rd_L7 out (a:Int)++[(⟨(i:Int),st,st + p⟩:PSpan)])∧
  RowP jobs.length 0 (rd_L7 out (a:Int)++[(⟨(i:Int),st,st + p⟩:PSpan)])∧
  FarP (out.set a (rd_L7 out (a:Int)++[(⟨(i:Int),st,st + p⟩:PSpan)]))∧
  (∀ b:Nat,b<(out.set a (rd_L7 out (a:Int)++[(⟨(i:Int),st,st + p⟩:PSpan)])).length→∀ q ∈ rd_L7 (out.set a (rd_L7 out (a:Int)++[(⟨(i:Int),st,st + p⟩:PSpan)])) (b:Int),q.f0≤(i:Int))∧
  (∀ j:Nat,timeOf (j:Int) (out.set a (rd_L7 out (a:Int)++[(⟨(i:Int),st,st + p⟩:PSpan)])).flatten=if j<i then tmS jobs j else if j=i then tmS jobs i - (r - p) else 0):=by
 obtain ⟨s,hs⟩:∃ s:PSpan,s=⟨(i:Int),st,st + p⟩:=⟨_,rfl⟩
 have s0:s.f0=(i:Int):=by rw [hs]
 have s1:s.f1=st:=by rw [hs]
 have s2:s.f2=st + p:=by rw [hs]
 rw [←hs]
 have hget:=rdLSp_set ha (rd_L7 out (a:Int)++[s])
 have hne:∀ b:Nat,b≠a→rd_L7 (out.set a (rd_L7 out (a:Int)++[s])) (b:Int)=rd_L7 out (b:Int):=fun b hb=>by rw [hget,if_neg hb]
 have heq:rd_L7 (out.set a (rd_L7 out (a:Int)++[s])) (a:Int)=rd_L7 out (a:Int)++[s]:=by rw [hget,if_pos rfl]
 obtain ⟨g1,g2,g3,g4⟩:=h.rows a ha
 refine ⟨fun b _ hb=>hne b hb,heq,rowP_snoc _ _ _ g1 (by rw [g3 rfl,s1];exact Int.le_refl _) ⟨⟨by omega,by omega⟩,by omega,by omega⟩,?_,?_,?_⟩
 ·intro b hb q hq a2 ha2 z hz
  rw [List.length_set] at hb
  by_cases eb:b=a
  ·subst eb
   rw [heq] at hq
   rw [hne a2 (by omega)] at hz ⊢
   rcases List.mem_append.1 hq with hq|hq
   ·exact h.far b hb q hq a2 ha2 z hz
   ·rw [List.mem_singleton.1 hq]
    have hm:rd_T116 (rd_L7 out (a2:Int)) (z:Int) ∈ rd_L7 out (a2:Int):=by rw [rdPSpan hz];exact List.getElem_mem hz
    rintro ⟨e1,e2,e3⟩
    have:=h.cur hr a2 (by omega) _ hm (by rw [←e1];exact s0)
    omega
  ·rw [hne b eb] at hq
   by_cases ea:a2=a
   ·subst ea
    rw [(h.rows b hb).2.2.2 ha2] at hq
    cases hq
   ·rw [hne a2 ea] at hz ⊢
    exact h.far b hb q hq a2 ha2 z hz
 ·intro b hb q hq
  rw [List.length_set] at hb
  by_cases eb:b=a
  ·subst eb
   rw [heq] at hq
   rcases List.mem_append.1 hq with hq|hq
   ·exact h.old b hb q hq
   ·rw [List.mem_singleton.1 hq,s0];exact Int.le_refl _
  ·rw [hne b eb] at hq
   exact h.old b hb q hq
 ·intro j
  have e:=timeOf_set (j:Int) s out a ha
  rw [rdLSS ha,e,h.sums j]
  simp only [timeOf,Int.add_zero]
  rw [s0,s1,s2]
  by_cases c1:j<i
  ·rw [if_pos c1,if_neg (by omega),if_pos c1,Int.add_zero]
  ·rw [if_neg c1,if_neg c1]
   by_cases c2:j=i
   ·rw [if_pos c2,if_pos (by omega),if_pos c2];omega
   ·rw [if_neg c2,if_neg (by omega),if_neg c2,Int.add_zero]
theorem WX.wrap {jobs:List J} {L st r p:Int} {i a:Nat} {out:List (List PSpan)} (h:WX jobs L i r out a st) (ha:a<out.length) (hr:0<r) (hst:0≤st∧st<L) (hrL:r≤L) (hL:L≤1000) (hin:i<jobs.length) (hp:1≤p∧p≤r) (hE:st + p=L):WX jobs L i (r - p) (out.set a (rd_L7 out (a:Int)++[(⟨(i:Int),st,st + p⟩:PSpan)])) (a + 1) 0:=by
 obtain ⟨q1,q2,q3,q4,q5,q6⟩:=wx_step h ha hr hp hst.1 (by omega) hL hin
 refine ⟨fun b hb=>?_,q4,fun hr2 b hb q hq hj=>?_,q5,q6⟩
 ·have hb':b<out.length:=by rwa [List.length_set] at hb
  obtain ⟨g1,g2,g3,g4⟩:=h.rows b hb'
  by_cases eb:b=a
  ·subst eb
   rw [q2]
   refine ⟨q3,fun _=>by rw [endF_snoc];exact hE,fun h=>by omega,fun h=>by omega⟩
  ·rw [q1 b hb eb]
   refine ⟨g1,fun h=>g2 (by omega),fun h=>by rw [g4 (by omega)];rfl,fun h=>g4 (by omega)⟩
 ·have hb':b<out.length:=by rwa [List.length_set] at hb
  by_cases eb:b=a
  ·subst eb
   rw [q2] at hq
   rcases List.mem_append.1 hq with hq|hq
   ·have:=h.cur hr b hb' q hq hj;omega
   ·rw [List.mem_singleton.1 hq]
    show 0 + (r - p)≤st
    omega
  ·rw [q1 b hb eb] at hq
   have:=h.cur hr b hb' q hq hj;omega
theorem WX.next {jobs:List J} {L st r p:Int} {i a:Nat} {out:List (List PSpan)} (h:WX jobs L i r out a st) (ha:a<out.length) (hr:0<r) (hst:0≤st∧st<L) (hL:L≤1000) (hin:i<jobs.length) (hp:p=r) (hE:st + p<L):WX jobs L i (r - p) (out.set a (rd_L7 out (a:Int)++[(⟨(i:Int),st,st + p⟩:PSpan)])) a (st + p):=by
 obtain ⟨q1,q2,q3,q4,q5,q6⟩:=wx_step h ha hr (p:=p) (by omega) hst.1 (by omega) hL hin
 refine ⟨fun b hb=>?_,q4,fun hr2=>by omega,q5,q6⟩
 have hb':b<out.length:=by rwa [List.length_set] at hb
 obtain ⟨g1,g2,g3,g4⟩:=h.rows b hb'
 by_cases eb:b=a
 ·subst eb
  rw [q2]
  exact ⟨q3,fun h=>by omega,fun _=>endF_snoc _ _ _,fun h=>by omega⟩
 ·rw [q1 b hb eb]
  exact ⟨g1,g2,fun h=>absurd h eb,g4⟩
def lastF:List PSpan→Int→Int
 | [],a=>a
 | s::D,a=>lastF D (if s.f2>a then s.f2 else a)
theorem lastF_ge:∀ (D:List PSpan) (a:Int),a≤lastF D a∧∀ s ∈ D,s.f2≤lastF D a
 | [],a=>⟨Int.le_refl _,fun s hs=>by cases hs⟩
 | x::D,a=>by
  rw [lastF]
  obtain ⟨h1,h2⟩:=lastF_ge D (if x.f2>a then x.f2 else a)
  have h3:a≤(if x.f2>a then x.f2 else a)∧x.f2≤(if x.f2>a then x.f2 else a):=by split <;> omega
  exact ⟨by omega,fun s hs=>by
   rcases List.mem_cons.1 hs with rfl|hs
   ·omega
   ·exact h2 s hs⟩
theorem lastF_le {M:Int} : ∀ (D:List PSpan) (a:Int),a≤M→(∀ s ∈ D,s.f2≤M)→lastF D a≤M
 | [],_,h,_=>h
 | x::D,a,h,hs=>by
  rw [lastF]
  refine lastF_le D _ ?_ (fun s h=>hs s (List.mem_cons_of_mem _ h))
  have:=hs x List.mem_cons_self
  split <;> omega
theorem flat_mem {out:List (List PSpan)} {q:PSpan} (h:q ∈ out.flatten):∃ b:Nat,b<out.length∧q ∈ rd_L7 out (b:Int):=by
 obtain ⟨l,hl,hq⟩:=List.mem_flatten.1 h
 obtain ⟨b,hb,rfl⟩:=List.getElem_of_mem hl
 exact ⟨b,hb,by rw [rdLSS hb];exact hq⟩
theorem mem_flat {out:List (List PSpan)} {q:PSpan} {b:Nat} (hb:b<out.length) (h:q ∈ rd_L7 out (b:Int)):q ∈ out.flatten:=by
 rw [rdLSS hb] at h
 exact List.mem_flatten.2 ⟨_,List.getElem_mem hb,h⟩
/-- the plan in the end -/
theorem WX.good {jobs:List J} {L st r:Int} {a:Nat} {out:List (List PSpan)} (h:WX jobs L jobs.length r out a st) (hst:0≤st∧st<L) (ha:0<a) (h0:0<out.length):SharedP jobs out∧lastF out.flatten 0=L:=by
 refine ⟨⟨fun b hb=>(h.rows b hb).1,h.far,fun j hj=>by rw [h.sums j,if_pos hj];rfl⟩,?_⟩
 have hb:∀ s ∈ out.flatten,s.f2≤L:=fun s hs=>by
  obtain ⟨b,hb,hq⟩:=flat_mem hs
  obtain ⟨g1,g2,g3,g4⟩:=h.rows b hb
  have:=(endF_ge _ _ g1).2 s hq
  rcases Nat.lt_trichotomy b a with c|c|c
  ·rw [g2 c] at this;exact this
  ·rw [g3 c] at this;omega
  ·rw [g4 c] at hq;cases hq
 have h1:=lastF_le out.flatten 0 (by omega) hb
 obtain ⟨g1,g2,_⟩:=h.rows 0 h0
 rcases endF_at (rd_L7 out ((0:Nat):Int)) 0 with e | ⟨s,hs,e⟩
 ·have:=g2 ha;omega
 ·have:=(lastF_ge out.flatten 0).2 s (mem_flat h0 hs)
  have:=g2 ha
  omega

theorem wb_l1 (jobs:List J) (n m:Nat) (hm:m≤4) (L T:Int) (hL:1≤L∧L≤100000) (hT0:T≤1000) (hT:T≤(m:Int) * L) (hL2:L≤1000) (i:Nat) (hi:i<1000) (hin:i<jobs.length) (left:Int) (hleft:0≤left) (Good:List (List PSpan) × Bool→Prop)
  (next:∀ (out:List (List PSpan)) (C P:Int) (a:Nat) (st im it:Int),WaInv n m L T out C P a st im it→C + left=T→WX jobs L i 0 out a st→∃ R,Ev (fun k=>spec_WrapAround.l0 k jobs L out (a:Int) st ((i + 1:Nat):Int)) R∧Ev (fun k=>impl_WrapAround.l0 k L out im it jobs (jobs.length:Int) ((i + 1:Nat):Int)) R∧Good R) :
  ∀ (c:Nat) (r:Int) (out:List (List PSpan)) (C P:Int) (a:Nat) (st im it:Int),r≤c→0≤r→WaInv n m L T out C P a st im it→C + r + left=T→r≤L→WX jobs L i r out a st→∃ R,Ev (fun k=>spec_WrapAround.l1 k jobs L out (a:Int) st (i:Int) r) R∧Ev (fun k=>impl_WrapAround.l1 k L out im it (i:Int) r jobs (jobs.length:Int) (i:Int)) R∧Good R:=by
 intro c
 induction c with
 | zero=>
  intro r out C P a st im it h1 h2 hI hC hrL hX
  obtain ⟨R,e1,e2,hG⟩:=next out C P a st im it hI (by omega) (by rw [show (0:Int)=r by omega];exact hX)
  refine ⟨R,ev_go _ (fun k=>?_) e1,ev_go _ (fun k=>?_) e2,hG⟩
  ·simp only [spec_WrapAround.l1];rw [if_neg (by omega),wr1 (by omega)]
  ·simp only [impl_WrapAround.l1];rw [if_neg (by omega),wr1 (by omega)]
 | succ c ih=>
  intro r out C P a st im it h1 h2 hI hC hrL hX
  by_cases hr:r>0
  ·have hI0:=hI
   obtain ⟨i1,i2,i3,i4,i5,i6,i7⟩:=hI
   have ha:a<m:=wa_lt i5 i4 i6.1 (by omega) hT hL.1
   have hal:a<out.length:=by omega
   obtain ⟨p,hp⟩:∃ p,p=if r<L - st then r else L - st:=⟨_,rfl⟩
   have hp1:1≤p∧p≤r∧st + p≤L:=by subst hp;split <;> omega
   have hrow:rd_L7 out (a:Int)=out[a]:=rdLSS hal
   have hrl:((rd_L7 out (a:Int)).length:Int)≤C:=by rw [hrow];exact i2 _ (List.getElem_mem hal)
   have w1:=Aside0.mk (show wrap64 (L - st)=L - st from wr (by omega) (by omega))
   have w2:=Aside0.mk (show wrap64 (st + p)=st + p from wr (by omega) (by omega))
   have w3:=Aside0.mk (show wrap64 (r - p)=r - p from wr (by omega) (by omega))
   have w4:=Aside0.mk (show wrap64 ((a:Int) + 1)=((a + 1:Nat):Int) from by rw [wr (by omega) (by omega)];omega)
   have hls:spec_l1Least.f r (L - st)=some p:=by unfold spec_l1Least.f;rw [hp];split <;> rfl
   have hmn:=Aside0.mk (show mn r (L - st)=p from by rw [mn_eq,hp])
   obtain ⟨out',ho⟩:∃ o,o=out.set a ((rd_L7 out (a:Int))++[(⟨(i:Int),st,st + p⟩:PSpan)]):=⟨_,rfl⟩
   have hlen':out'.length=m:=by rw [ho];simpa using i1
   have hrow':∀ y ∈ out',(y.length:Int)≤C + p:=by
    intro y hy
    rw [ho] at hy
    rcases List.mem_or_eq_of_mem_set hy with hy|hy
    ·have:=i2 y hy;omega
    ·rw [hy,List.length_append];simp;omega
      -- the program's step
   have stepI:∀ k,impl_WrapAround.l1 (k + 1) L out im it (i:Int) r jobs (jobs.length:Int) (i:Int)=impl_WrapAround.l1 k L out' (a:Int) (st + p) (i:Int) (r - p) jobs (jobs.length:Int) (i:Int):=fun k=>by
    rcases i7 with ⟨q1,q2⟩ | ⟨q1,q2,q3,q4⟩
    ·subst q1 q2
     simp only [impl_WrapAround.l1]
     rw [if_pos hr,if_neg (by omega),if_pos (by omega),if_pos (by omega),if_pos (by omega),w1.out,hmn.out,w2.out,w3.out,Int.toNat_natCast,←ho]
    ·subst q1 q3
     have w5:=Aside0.mk (show wrap64 (im + 1)=(a:Int) from by rw [wr (by omega) (by omega)];omega)
     simp only [impl_WrapAround.l1]
     rw [if_pos hr,if_pos trivial,w5.out,if_pos (by omega),if_pos (by omega),if_pos (by omega),w1.out,hmn.out,w2.out,w3.out,Int.toNat_natCast,←ho]
   have hpr:st + p<L→p=r:=fun hh=>by
    by_cases hq:r<L - st
    ·rw [if_pos hq] at hp;exact hp
    ·rw [if_neg hq] at hp;omega
   by_cases hE:st + p=L
   ·have hI':WaInv n m L T out' (C + p) (P + L) (a + 1) 0 (a:Int) (st + p):=WaInv.wrap hI0 hlen' hrow' hp1.1 (by omega) hE
    obtain ⟨R,e1,e2,hG⟩:=ih (r - p) out' (C + p) (P + L) (a + 1) 0 (a:Int) (st + p) (by omega) (by omega) hI' (by omega) (by omega) (by rw [ho];exact WX.wrap hX hal hr ⟨i6.1,i6.2⟩ hrL hL2 hin ⟨hp1.1,hp1.2.1⟩ hE)
    refine ⟨R,ev_go _ (fun k=>?_) e1,ev_go _ stepI e2,hG⟩
    simp only [spec_WrapAround.l1]
    rw [if_pos hr,w1.out,hls,Option.bind_some,if_pos (by omega),if_pos (by omega),if_pos (by omega),if_pos (by omega),Option.bind_some,w2.out,w3.out,w4.out,if_pos hE,Int.toNat_natCast,←ho]
   ·have hI':WaInv n m L T out' (C + p) P a (st + p) (a:Int) (st + p):=WaInv.next hI0 hlen' hrow' hp1.1 (by omega) (by omega)
    obtain ⟨R,e1,e2,hG⟩:=ih (r - p) out' (C + p) P a (st + p) (a:Int) (st + p) (by omega) (by omega) hI' (by omega) (by omega) (by rw [ho];exact WX.next hX hal hr ⟨i6.1,i6.2⟩ hL2 hin (hpr (by omega)) (by omega))
    refine ⟨R,ev_go _ (fun k=>?_) e1,ev_go _ stepI e2,hG⟩
    simp only [spec_WrapAround.l1]
    rw [if_pos hr,w1.out,hls,Option.bind_some,if_pos (by omega),if_pos (by omega),if_pos (by omega),if_pos (by omega),Option.bind_some,w2.out,w3.out,if_neg hE,Int.toNat_natCast,←ho]
  ·obtain ⟨R,e1,e2,hG⟩:=next out C P a st im it hI (by omega) (by rw [show (0:Int)=r by omega];exact hX)
   refine ⟨R,ev_go _ (fun k=>?_) e1,ev_go _ (fun k=>?_) e2,hG⟩
   ·simp only [spec_WrapAround.l1];rw [if_neg hr,wr1 (by omega)]
   ·simp only [impl_WrapAround.l1];rw [if_neg hr,wr1 (by omega)]
theorem wb_l0 (jobs:List J) (hj:JobsOk jobs) (m:Nat) (hm:m≤4) (hm1:1≤m) (L T:Int) (hL:1≤L∧L≤100000) (hL2:L≤1000) (hLT:L≤T) (hmax:∀ i:Nat,i<jobs.length→tmS jobs i≤L) (hT0:T≤1000) (hT:T≤(m:Int) * L):∀ (c i:Nat) (out:List (List PSpan)) (C P:Int) (a:Nat) (st im it:Int),i + c=jobs.length→WaInv jobs.length m L T out C P a st im it→C + sumD (jobs.drop i)=T→WX jobs L i (tmS jobs i) out a st→∃ R,Ev (fun k=>spec_WrapAround.l0 k jobs L out (a:Int) st (i:Int)) R∧Ev (fun k=>impl_WrapAround.l0 k L out im it jobs (jobs.length:Int) (i:Int)) R∧(R.1.length=m∧(∀ y ∈ R.1,(y.length:Int)≤1000)∧SharedP jobs R.1∧lastF R.1.flatten 0=L)∧R.2=true:=by
 have h8:=hj.1
 intro c
 induction c with
 | zero=>
  intro i out C P a st im it h1 hI hC hX
  have e:i=jobs.length:=by omega
  subst e
  rw [List.drop_length,sumD,Int.add_zero] at hC
  have ha:0<a:=Nat.pos_of_ne_zero fun h=>by
   have h2:=hI.hP
   have h3:=hI.eq
   have h4:=hI.hst
   rw [h] at h2
   simp at h2
   omega
  have hg:=WX.good hX hI.hst ha (by rw [hI.len];omega)
  refine ⟨(out,true),ev_stop fun k=>?_,ev_stop fun k=>?_,⟨hI.len,fun y hy=>by have:=hI.row y hy;have:=hI.c0;omega,hg.1,hg.2⟩,rfl⟩
  ·simp only [spec_WrapAround.l0];rw [if_neg (by omega)]
  ·simp only [impl_WrapAround.l0];rw [if_neg (by omega)]
 | succ c ih=>
  intro i out C P a st im it h1 hI hC hX
  have hi:i<jobs.length:=by omega
  have ht:=(hj.2 _ (List.getElem_mem hi)).1
  have hs:=sumD_in (jobs.drop (i + 1)) (fun j h=>job_times jobs hj j (List.mem_of_mem_drop h))
  have hti:tmS jobs i=jobs[i].f0:=by unfold tmS;rw [rdJ hi]
  have hmi:=hmax i hi
  rw [drop_cons hi,sumD] at hC
  rw [hti] at hX hmi
  obtain ⟨R,e1,e2,hG⟩:=wb_l1 jobs jobs.length m hm L T hL hT0 hT hL2 i (by omega) hi (sumD (jobs.drop (i + 1))) hs.1 (fun R=>(R.1.length=m∧(∀ y ∈ R.1,(y.length:Int)≤1000)∧SharedP jobs R.1∧lastF R.1.flatten 0=L)∧R.2=true) (fun out C P a st im it hI hC hX=>ih (i + 1) out C P a st im it (by omega) hI hC (WX.job hX)) jobs[i].f0.toNat jobs[i].f0 out C P a st im it (by omega) (by omega) hI (by omega) hmi hX
  refine ⟨R,ev_go _ (fun k=>?_) e1,ev_go _ (fun k=>?_) e2,hG⟩
  ·simp only [spec_WrapAround.l0];rw [if_pos (by omega),if_pos (by omega),rdJ hi]
  ·simp only [impl_WrapAround.l0];rw [if_pos (by omega),if_pos (by omega),if_pos (by omega),rdJ hi]
def ffF:BF:=fun _ _=>false
theorem fwJ_ff (k i:Nat):∀ L:List Nat,fwJ k i L ffF=ffF
 | []=>rfl
 | j::L=>by
  show fwJ k i L (fwS k i j ffF)=ffF
  rw [fwS_same k i j ffF rfl]
  exact fwJ_ff k i L
theorem fwI_ff (n k:Nat):∀ L:List Nat,fwI n k L ffF=ffF
 | []=>rfl
 | i::L=>by
  show fwI n k L (fwJ k i (List.range n) ffF)=ffF
  rw [fwJ_ff]
  exact fwI_ff n k L
theorem fwK_ff (n:Nat):∀ L:List Nat,fwK n L ffF=ffF
 | []=>rfl
 | k::L=>by
  show fwK n L (fwI n k (List.range n) ffF)=ffF
  rw [fwI_ff]
  exact fwK_ff n L
theorem bestB_ff (t:Nat→Int) (i:Nat):∀ (L:List Nat) (s:Int),bestB ffF t i L s=s
 | [],_=>rfl
 | k::L,s=>by
  rw [bestB,if_neg (by unfold ffF;decide)]
  exact bestB_ff t i L s
theorem TL_nil (jobs:List J) {i:Nat} (hi:i<jobs.length):TL jobs (cloF jobs.length []) i=tmS jobs i:=by
 have e:cloF jobs.length []=ffF:=fwK_ff jobs.length _
 rw [e]
 unfold TL
 obtain ⟨n,hn⟩:∃ n,jobs.length=n + 1:=⟨jobs.length - 1,by omega⟩
 rw [hn,tailN,bestB_ff,Int.add_zero]
 rfl
theorem sumD_mem:∀ (l:List J),(∀ j ∈ l,1≤j.f0∧j.f0≤50)→∀ x ∈ l,x.f0≤sumD l
 | [],_,x,hx=>by cases hx
 | y::l,h,x,hx=>by
  have h1:=h y List.mem_cons_self
  have h2:=sumD_in l (fun j hj=>h j (List.mem_cons_of_mem _ hj))
  rw [sumD]
  rcases List.mem_cons.1 hx with rfl|hx
  ·omega
  ·have:=sumD_mem l (fun j hj=>h j (List.mem_cons_of_mem _ hj)) x hx
   omega
theorem mxW_in2 {x:Int} : ∀ (l:List Int) (a:Int),x ∈ l→x≤mxW l a
 | [],_,h=>by cases h
 | y::l,a,h=>by
  rw [mxW]
  rcases List.mem_cons.1 h with rfl|h
  ·refine Int.le_trans ?_ (mxW_ge l _)
   unfold mx;split <;> omega
  ·exact mxW_in2 l _ h
theorem mxW_most2 {M:Int} : ∀ (l:List Int) (a:Int),a≤M→(∀ x ∈ l,x≤M)→mxW l a≤M
 | [],_,h,_=>h
 | y::l,a,h,hx=>by
  rw [mxW]
  refine mxW_most2 l _ ?_ (fun x h=>hx x (List.mem_cons_of_mem _ h))
  have:=hx y List.mem_cons_self
  unfold mx;split <;> omega
theorem ceil_le2 (T m V:Int) (hm:1≤m∧m≤4) (h:T≤m * V):(T + m - 1) / m≤V:=by
 have hc:m=1∨m=2∨m=3∨m=4:=by omega
 rcases hc with rfl|rfl|rfl|rfl <;> omega
theorem lenF_max {jobs:List J} {m V:Int} (h1:∀ i:Nat,i<jobs.length→tmS jobs i≤V) (h2:(sumD jobs + m - 1) / m≤V) (h0:0≤V):lenF jobs m []≤V:=by
 unfold lenF
 have h3:mxW (tailsL jobs (cloF jobs.length [])) 0≤V:=mxW_most2 _ _ h0 fun x hx=>by
  obtain ⟨i,hi,rfl⟩:=List.mem_map.1 hx
  have hi2:=List.mem_range.1 hi
  rw [TL_nil jobs hi2]
  exact h1 i hi2
 have:=mx_ge2 (mxW (tailsL jobs (cloF jobs.length [])) 0) ((sumD jobs + m - 1) / m)
 omega
theorem lenF_ge {jobs:List J} {m:Int} {i:Nat} (hi:i<jobs.length):tmS jobs i≤lenF jobs m []:=by
 unfold lenF
 have h3:=mxW_in2 (x:=tmS jobs i) (tailsL jobs (cloF jobs.length [])) 0 (List.mem_map.2 ⟨i,List.mem_range.2 hi,TL_nil jobs hi⟩)
 have:=mx_ge2 (mxW (tailsL jobs (cloF jobs.length [])) 0) ((sumD jobs + m - 1) / m)
 omega
theorem rdL_rep (m b:Nat):rd_L7 (List.replicate m ([]:List PSpan)) (b:Int)=[]:=by
 simp only [rd_L7,Int.toNat_natCast,List.getD_eq_getElem?_getD,List.getElem?_replicate]
 split <;> rfl
theorem wrap_good {jobs:List J} {m:Int} (h:ParOk jobs m []):∃ r,Ev (fun k=>spec_WrapAround.f k jobs m) (r,true)∧Ev (fun k=>impl_WrapAround.f k jobs m) (r,true)∧(r.length:Int)=m∧(∀ y ∈ r,(y.length:Int)≤1000)∧SharedP jobs r∧lastF r.flatten 0=lenF jobs m []:=by
 have hm:=h.2.1
 have hJ:=h.1.1
 have h8:=hJ.1
 have es:=spec_l7Good.ev jobs m [] (by omega) (by simp)
 have ei:=impl_isParallel.ev jobs m [] (by omega) (by simp)
 have hs:=sumD_in jobs (job_times jobs hJ)
 have e1:=spec_l7Bound.ev jobs m [] hJ h.2.2 hm
 have e2:=impl_lengthBound.ev jobs m [] hJ h.2.2 hm
 have hc:=ceil_le (sumD jobs) m hs.1 hm
 have hg:=ceil_ge (sumD jobs) m hm
 have hmN:(m.toNat:Int)=m:=Int.toNat_of_nonneg (by omega)
 have htm:∀ i:Nat,i<jobs.length→tmS jobs i≤sumD jobs∧1≤tmS jobs i:=fun i hi=>by
  unfold tmS
  rw [rdJ hi]
  exact ⟨sumD_mem jobs (job_times jobs hJ) _ (List.getElem_mem hi),(job_times jobs hJ _ (List.getElem_mem hi)).1⟩
 have hcl:(sumD jobs + m - 1) / m≤sumD jobs:=ceil_le2 _ _ _ hm (by
  have hc:m=1∨m=2∨m=3∨m=4:=by omega
  rcases hc with rfl|rfl|rfl|rfl <;> omega)
 have hLT:lenF jobs m []≤sumD jobs:=lenF_max (fun i hi=>(htm i hi).1) hcl hs.1
 have hLx:(sumD jobs + m - 1) / m≤lenF jobs m []:=by
  unfold lenF
  have:=mx_ge2 (mxW (tailsL jobs (cloF jobs.length [])) 0) ((sumD jobs + m - 1) / m)
  omega
 by_cases h0:jobs.length=0
 ·have hz:∀ o:List (List PSpan),Ev (fun k=>spec_WrapAround.l0 k jobs (lenF jobs m []) o 0 0 0) (o,true)∧Ev (fun k=>impl_WrapAround.l0 k (lenF jobs m []) o 0 0 jobs (jobs.length:Int) 0) (o,true):=fun o=>⟨ev_stop fun k=>by simp only [spec_WrapAround.l0];rw [if_neg (by omega)],ev_stop fun k=>by simp only [impl_WrapAround.l0];rw [if_neg (by omega)]⟩
  have hfl:(List.replicate m.toNat ([]:List PSpan)).flatten=[]:=by simp
  have hrd:=rdL_rep m.toNat
  refine ⟨List.replicate m.toNat [],ev_guard' es (fun _=>ev_bind _ e1 ?_) (fun hn=>absurd h hn),ev_guard' ei (fun _=>ev_bind _ e2 ?_) (fun hn=>absurd h hn),by simp;omega,fun y hy=>by rw [(List.mem_replicate.1 hy).2];simp,⟨fun b _=>(by rw [hrd];trivial),fun b _ p hp=>(by rw [hrd] at hp;exact absurd hp List.not_mem_nil),fun i hi=>absurd hi (by omega)⟩,?_⟩
  ·simp only [if_pos (show 0≤m by omega),if_pos (show m.toNat≤11728124029610 by omega)]
   exact (hz _).1
  ·simp only [if_pos (show 0≤m by omega),if_pos (show m.toNat≤11728124029610 by omega)]
   exact (hz _).2
  ·rw [hfl,lastF]
   have hj0:jobs=[]:=List.length_eq_zero_iff.1 h0
   subst hj0
   have:lenF [] m []≤0:=hLT
   have:0≤(sumD [] + m - 1) / m:=hc.1
   omega
 ·have hpos:1≤sumD jobs:=by
   have:=htm 0 (by omega)
   omega
  have hT:sumD jobs≤(m.toNat:Int) * lenF jobs m []:=by
   rw [hmN]
   have h1:(sumD jobs + m - 1) / m * m≤lenF jobs m [] * m:=Int.mul_le_mul_of_nonneg_right hLx (by omega)
   rw [Int.mul_comm m]
   omega
  have hfl:(List.replicate m.toNat ([]:List PSpan)).flatten=[]:=by simp
  have hrd:=rdL_rep m.toNat
  have hX:WX jobs (lenF jobs m []) 0 (tmS jobs 0) (List.replicate m.toNat []) 0 0:=by
   refine ⟨fun b _=>by rw [hrd];exact ⟨trivial,fun hb=>by omega,fun _=>rfl,fun _=>rfl⟩,fun b _ p hp=>(by rw [hrd] at hp;exact absurd hp List.not_mem_nil),fun _ b _ q hq=>(by rw [hrd] at hq;exact absurd hq List.not_mem_nil),fun b _ q hq=>(by rw [hrd] at hq;exact absurd hq List.not_mem_nil),fun j=>?_⟩
   rw [hfl,timeOf,if_neg (by omega)]
   split
   ·omega
   ·rfl
  obtain ⟨R,s1,s2,⟨g1,g2,g4,g5⟩,g3⟩:=wb_l0 jobs hJ m.toNat (by omega) (by omega) (lenF jobs m []) (sumD jobs) (by omega) (by omega) hLT (fun i hi=>lenF_ge hi) (by omega) hT jobs.length 0 (List.replicate m.toNat []) 0 0 0 0 0 0 (by omega) ⟨by simp,fun y hy=>by rw [(List.mem_replicate.1 hy).2];simp,by omega,by omega,by simp,by omega,.inl ⟨rfl,rfl⟩⟩ (by simp) hX
  obtain ⟨R1,R2⟩:=R
  have g3':R2=true:=g3
  subst g3'
  refine ⟨R1,ev_guard' es (fun _=>ev_bind _ e1 ?_) (fun hn=>absurd h hn),ev_guard' ei (fun _=>ev_bind _ e2 ?_) (fun hn=>absurd h hn),by have:R1.length=m.toNat:=g1;omega,g2,g4,g5⟩
  ·simp only [if_pos (show 0≤m by omega),if_pos (show m.toNat≤11728124029610 by omega)]
   exact s1
  ·simp only [if_pos (show 0≤m by omega),if_pos (show m.toNat≤11728124029610 by omega)]
   exact s2
theorem wrap_bad {jobs:List J} {m:Int} (hj:jobs.length≤1048576) (h:¬ ParOk jobs m []):Ev (fun k=>spec_WrapAround.f k jobs m) ([],false)∧Ev (fun k=>impl_WrapAround.f k jobs m) ([],false):=by
 have es:=spec_l7Good.ev jobs m [] hj (by simp)
 have ei:=impl_isParallel.ev jobs m [] hj (by simp)
 exact ⟨ev_guard' es (fun h1=>absurd h1 h) (fun _=>Ev.now _),ev_guard' ei (fun h1=>absurd h1 h) (fun _=>Ev.now _)⟩

def rowTot:List PSpan→Int
 | []=>0
 | s::l=>(s.f2 - s.f1) + rowTot l
theorem rowTot_app:∀ l r:List PSpan,rowTot (l++r)=rowTot l + rowTot r
 | [],r=>by simp [rowTot]
 | s::l,r=>by rw [List.cons_append,rowTot,rowTot,rowTot_app l r];omega
theorem rowTot_le {n V:Int} : ∀ (l:List PSpan) (now:Int),RowP n now l→now≤V→(∀ s ∈ l,s.f2≤V)→rowTot l≤V - now
 | [],now,_,h,_=>by rw [rowTot];omega
 | s::l,now,h,hn,hV=>by
  obtain ⟨⟨_,h2,h3,_⟩,h5⟩:=h
  have h6:=hV s List.mem_cons_self
  have ih:=rowTot_le l s.f2 h5 h6 (fun t ht=>hV t (List.mem_cons_of_mem _ ht))
  rw [rowTot];omega
def sumJ (D:List PSpan):Nat→Int
 | 0=>0
 | n + 1=>sumJ D n + timeOf (n:Int) D
theorem sumJ_cons (s:PSpan) (D:List PSpan) (h0:0≤s.f0):∀ n:Nat,sumJ (s::D) n=sumJ D n + (if s.f0<(n:Int) then s.f2 - s.f1 else 0)
 | 0=>by rw [sumJ,sumJ,if_neg (by omega)];omega
 | n + 1=>by
  rw [sumJ,sumJ,sumJ_cons s D h0 n,timeOf]
  by_cases c1:s.f0<(n:Int)
  ·rw [if_pos c1,if_neg (by omega),if_pos (by omega)];omega
  ·rw [if_neg c1]
   by_cases c2:s.f0=(n:Int)
   ·rw [if_pos c2,if_pos (by omega)];omega
   ·rw [if_neg c2,if_neg (by omega)];omega
theorem sumJ_tot {n:Nat} : ∀ D:List PSpan,(∀ s ∈ D,0≤s.f0∧s.f0<(n:Int))→sumJ D n=rowTot D
 | [],_=>by
  have:∀ m:Nat,sumJ [] m=0:=fun m=>by
   induction m with
   | zero=>rfl
   | succ m ih=>rw [sumJ,ih];rfl
  rw [this];rfl
 | s::D,h=>by
  have h1:=h s List.mem_cons_self
  rw [sumJ_cons s D h1.1,if_pos h1.2,sumJ_tot D (fun t ht=>h t (List.mem_cons_of_mem _ ht)),rowTot]
  omega
theorem sumD_app:∀ l r:List J,sumD (l++r)=sumD l + sumD r
 | [],r=>by simp [sumD]
 | s::l,r=>by rw [List.cons_append,sumD,sumD,sumD_app l r];omega
theorem sumD_sums {jobs:List J} {D:List PSpan} (h:SumsP jobs D):∀ n:Nat,n≤jobs.length→sumD (jobs.take n)=sumJ D n
 | 0,_=>by simp [sumD,sumJ]
 | n + 1,hn=>by
  rw [List.take_succ_eq_append_getElem (by omega),sumD_app,sumD_sums h n (by omega),sumJ,h n (by omega),rdJ (by omega),sumD,sumD,Int.add_zero]
theorem flat_tot {n V:Int} : ∀ (out:List (List PSpan)),(∀ l ∈ out,RowP n 0 l)→(∀ s ∈ out.flatten,s.f2≤V)→0≤V→rowTot out.flatten≤(out.length:Int) * V
 | [],_,_,_=>by simp [rowTot]
 | l::out,h,hV,h0=>by
  rw [List.flatten_cons,rowTot_app,List.length_cons]
  have h1:=rowTot_le l 0 (h l List.mem_cons_self) h0 (fun s hs=>hV s (by rw [List.flatten_cons];exact List.mem_append_left _ hs))
  have h2:=flat_tot out (fun r hr=>h r (List.mem_cons_of_mem _ hr)) (fun s hs=>hV s (by rw [List.flatten_cons];exact List.mem_append_right _ hs)) h0
  have e:((out.length + 1:Nat):Int) * V=(out.length:Int) * V + V:=by
   rw [show ((out.length + 1:Nat):Int)=(out.length:Int) + 1 by omega,Int.add_mul,Int.one_mul]
  rw [e];omega
def clp (x V:Int):Int:=if x≤V then x else V
def cl (j V:Int):List PSpan→Int
 | []=>0
 | s::D=>(if s.f0=j then clp s.f2 V - clp s.f1 V else 0) + cl j V D
def cov (j V:Int):List PSpan→Int
 | []=>0
 | s::D=>(if s.f0=j∧s.f1≤V∧V<s.f2 then 1 else 0) + cov j V D
def Dis (p q:PSpan):Prop:=p.f0=q.f0→p.f2≤q.f1∨q.f2≤p.f1
theorem cov_zero (j V:Int):∀ D:List PSpan,(∀ s ∈ D,¬ (s.f0=j∧s.f1≤V∧V<s.f2))→cov j V D=0
 | [],_=>rfl
 | s::D,h=>by rw [cov,if_neg (h s List.mem_cons_self),cov_zero j V D (fun t ht=>h t (List.mem_cons_of_mem _ ht))];rfl
theorem cov_one (j V:Int):∀ D:List PSpan,D.Pairwise Dis→cov j V D≤1
 | [],_=>by simp [cov]
 | s::D,h=>by
  obtain ⟨h1,h2⟩:=List.pairwise_cons.1 h
  rw [cov]
  by_cases c:s.f0=j∧s.f1≤V∧V<s.f2
  ·rw [if_pos c,cov_zero j V D (fun t ht c2=>by
    have:=h1 t ht (by rw [c.1,c2.1])
    omega)]
   omega
  ·rw [if_neg c]
   have:=cov_one j V D h2
   omega
theorem cl_succ {n:Int} (j V:Int):∀ D:List PSpan,(∀ s ∈ D,SpIn n s)→cl j (V + 1) D=cl j V D + cov j V D
 | [],_=>rfl
 | s::D,h=>by
  obtain ⟨_,h1,h2,_⟩:=h s List.mem_cons_self
  rw [cl,cl,cov,cl_succ j V D (fun t ht=>h t (List.mem_cons_of_mem _ ht))]
  by_cases c1:s.f0=j
  ·rw [if_pos c1,if_pos c1]
   unfold clp
   by_cases c2:s.f1≤V
   ·by_cases c3:V<s.f2
    ·rw [if_pos (⟨c1,c2,c3⟩:s.f0=j∧s.f1≤V∧V<s.f2),if_pos (show s.f1≤V + 1 by omega),if_pos c2,if_neg (show ¬ s.f2≤V by omega)]
     split <;> omega
    ·rw [if_neg (show ¬ (s.f0=j∧s.f1≤V∧V<s.f2) from fun c=>c3 c.2.2),if_pos (show s.f2≤V + 1 by omega),if_pos (show s.f1≤V + 1 by omega),if_pos (show s.f2≤V by omega),if_pos c2]
     omega
   ·rw [if_neg (show ¬ (s.f0=j∧s.f1≤V∧V<s.f2) from fun c=>c2 c.2.1),if_neg (show ¬ s.f2≤V + 1 by omega),if_neg (show ¬ s.f2≤V by omega),if_neg c2]
    split <;> omega
  ·rw [if_neg c1,if_neg c1,if_neg (show ¬ (s.f0=j∧s.f1≤V∧V<s.f2) from fun c=>c1 c.1)]
   omega
theorem cl_le {n:Int} (j:Int) {D:List PSpan} (h:∀ s ∈ D,SpIn n s) (hp:D.Pairwise Dis):∀ V:Nat,cl j (V:Int) D≤(V:Int)
 | 0=>by
  have z:∀ E:List PSpan,(∀ s ∈ E,SpIn n s)→cl j 0 E=0:=fun E=>by
   induction E with
   | nil=>intro _;rfl
   | cons s E ih=>
    intro hE
    obtain ⟨_,h1,h2,_⟩:=hE s List.mem_cons_self
    rw [cl,ih (fun t ht=>hE t (List.mem_cons_of_mem _ ht))]
    unfold clp
    rw [if_neg (show ¬ s.f2≤0 by omega)]
    split
    ·split <;> omega
    ·omega
  have:=z D h
  show cl j 0 D≤0
  omega
 | V + 1=>by
  have h1:=cl_succ j (V:Int) D h
  have h2:=cov_one j (V:Int) D hp
  have h3:=cl_le j h hp V
  have e:((V + 1:Nat):Int)=(V:Int) + 1:=by omega
  rw [e]
  omega
theorem cl_all (j V:Int):∀ D:List PSpan,(∀ s ∈ D,s.f2≤V∧s.f1≤V)→cl j V D=timeOf j D
 | [],_=>rfl
 | s::D,h=>by
  obtain ⟨h1,h2⟩:=h s List.mem_cons_self
  rw [cl,timeOf,cl_all j V D (fun t ht=>h t (List.mem_cons_of_mem _ ht))]
  unfold clp
  rw [if_pos h1,if_pos h2]
theorem row_dis {n:Int} : ∀ (l:List PSpan) (now:Int),RowP n now l→l.Pairwise Dis∧∀ s ∈ l,now≤s.f1
 | [],_,_=>⟨List.Pairwise.nil,fun s hs=>by cases hs⟩
 | x::l,now,h=>by
  obtain ⟨⟨_,h2,h3,_⟩,h5⟩:=h
  obtain ⟨g1,g2⟩:=row_dis l x.f2 h5
  exact ⟨List.pairwise_cons.2 ⟨fun q hq _=>.inl (g2 q hq),g1⟩,fun s hs=>by
   rcases List.mem_cons.1 hs with rfl|hs
   ·exact h2
   ·have:=g2 s hs;omega⟩
theorem flat_dis {n:Int} {out:List (List PSpan)} (hr:RowsP n out) (hf:FarP out):out.flatten.Pairwise Dis:=by
 refine List.pairwise_flatten.2 ⟨fun l hl=>?_,List.pairwise_iff_getElem.2 fun a b ha hb hab p hp q hq e=>?_⟩
 ·obtain ⟨b,hb,rfl⟩:=List.getElem_of_mem hl
  have:=hr b hb
  rw [rdLSS hb] at this
  exact (row_dis _ _ this).1
 ·have h1:=hf b hb q (by rw [rdLSS hb];exact hq) a hab
  rw [rdLSS ha] at h1
  obtain ⟨z,hz,rfl⟩:=List.getElem_of_mem hp
  have h2:=h1 z hz
  rw [rdPSpan hz] at h2
  exact Classical.byContradiction fun hn=>h2 ⟨e.symm,by omega,by omega⟩
theorem bound_le {jobs:List J} {m:Int} (hm:1≤m∧m≤4) {out:List (List PSpan)} (hl:(out.length:Int)=m) (h:SharedP jobs out):lenF jobs m []≤lastF out.flatten 0:=by
 obtain ⟨hr,hf,hsm⟩:=h
 obtain ⟨hV0,hV⟩:=lastF_ge out.flatten 0
 have hrow:∀ l ∈ out,RowP jobs.length 0 l:=fun l hl=>by
  obtain ⟨b,hb,rfl⟩:=List.getElem_of_mem hl
  have:=hr b hb
  rwa [rdLSS hb] at this
 have hin:∀ s ∈ out.flatten,SpIn jobs.length s:=fun s hs=>by
  obtain ⟨l,hl,hq⟩:=List.mem_flatten.1 hs
  exact rowP_in l 0 (Int.le_refl _) (hrow l hl) s hq
 refine lenF_max (fun i hi=>?_) (ceil_le2 _ _ _ hm ?_) hV0
 ·have h1:=hsm i hi
  have h2:=cl_all (i:Int) (lastF out.flatten 0) out.flatten (fun s hs=>⟨hV s hs,by have:=hV s hs;obtain ⟨_,_,h3,_⟩:=hin s hs;omega⟩)
  have h3:=cl_le (i:Int) hin (flat_dis hr hf) (lastF out.flatten 0).toNat
  rw [show ((lastF out.flatten 0).toNat:Int)=lastF out.flatten 0 by omega] at h3
  unfold tmS
  omega
 ·have h1:=sumD_sums hsm jobs.length (Nat.le_refl _)
  rw [List.take_length] at h1
  have h2:=sumJ_tot (n:=jobs.length) out.flatten (fun s hs=>(hin s hs).1)
  have h3:=flat_tot (V:=lastF out.flatten 0) out hrow hV hV0
  rw [h1,h2,←hl]
  exact h3

theorem spec_l1Cur_machines.tot {s:List Int} (hs:ByteL s) (p q:Int) (hp:0≤p) (hb:p≤1000000000000):∃ v p' q',spec_l1Cur_machines.f s p q=some (v,p',q')∧(-1≤v∧v≤5)∧p≤p'∧p'≤p + 10:=by
 obtain ⟨b,p1,q1,e1,h1,h2⟩:=on hs p q 24 hp (by omega)
 unfold spec_l1Cur_machines.f
 rw [e1,Option.bind_some]
 by_cases hb2:b=true
 ·obtain ⟨v,p2,q2,e2,hv,h3,h4⟩:=am hs p1 q1 [0,5, -1] (by simp) (by omega) (by omega)
  refine ⟨v,p2,q2,?_,?_,by omega,by omega⟩
  ·rw [if_pos hb2,e2,Option.bind_some]
  ·simp only [List.mem_cons,List.not_mem_nil,or_false] at hv
   rcases hv with rfl|rfl|rfl <;> omega
 ·obtain ⟨v,p2,q2,e2,hv,h3,h4⟩:=am hs p1 q1 [2,2,3,1,4] (by simp) (by omega) (by omega)
  refine ⟨v,p2,q2,?_,?_,by omega,by omega⟩
  ·rw [if_neg hb2,e2,Option.bind_some]
  ·simp only [List.mem_cons,List.not_mem_nil,or_false] at hv
   rcases hv with rfl|rfl|rfl|rfl|rfl <;> omega
/-- rows that are short -/
def ShortR (x:List (List PSpan)):Prop:=x.length≤10∧∀ a:Nat,a<x.length→(rd_L7 x (a:Int)).length≤1000
theorem short_set {x:List (List PSpan)} (h:ShortR x) {a:Nat} (ha:a<x.length) {i:Nat} {v:PSpan} : ShortR (x.set a ((rd_L7 x (a:Int)).set i v)):=by
 refine ⟨by rw [List.length_set];exact h.1,fun b hb=>?_⟩
 rw [List.length_set] at hb
 rw [rdLSp_set ha]
 split
 ·rw [List.length_set];exact h.2 a ha
 ·exact h.2 b hb
theorem spec_DrawIsShared.tot {s:List Int} (hs:ByteL s):∃ (jobs:List J) (m:Int) (x:List (List PSpan)),Ev (fun k=>spec_DrawIsShared.f k s) (jobs,m,x)∧jobs.length≤100∧(-1≤m∧m≤5)∧ShortR x:=by
 obtain ⟨jobs,p1,q1,e1,hj,h1,h2⟩:=spec_l1Cur_work7.tot hs 0 0 (by omega) (by omega)
 obtain ⟨m,p2,q2,e2,hm,h3,h4⟩:=spec_l1Cur_machines.tot hs p1 q1 (by omega) (by omega)
 by_cases h:ParOk jobs m []
 ·obtain ⟨r,w1,_,hl,hw,_⟩:=wrap_good h
  have hr:ShortR r:=⟨by have:=h.2.1;omega,fun a ha=>by rw [rdLSS ha];have:=hw _ (List.getElem_mem ha);omega⟩
  have hr10:=hr.1
  obtain ⟨a,p3,q3,e3,a0,a1,h5,h6⟩:=pk hs p2 q2 (r.length:Int) (by omega) (by omega)
  have ha:=a1 (by have:=h.2.1;omega)
  obtain ⟨c,p4,q4,e4,c0,c1,h7,h8⟩:=pk hs p3 q3 8 (by omega) (by omega)
  obtain ⟨an,rfl⟩:∃ n:Nat,a=(n:Int):=⟨a.toNat,by omega⟩
  have han:an<r.length:=by omega
  have hra:=hr.2 an han
  have go:∀ x:List (List PSpan),ShortR x→Ev (fun k=>(if c=0 then (if r.length<5864062014805 then (some (jobs,m,(r++[(([]:List PSpan))]))) else (none)) else (if c=1 then (if 0≤(an:Int) then (if (an:Int)<(r.length:Int) then (if ((rd_L7 r (an:Int)).length:Int)>0 then (if 0<((rd_L7 r (an:Int)).length:Int) then ((spec_l1Cur_pick.f s p4 q4 3).bind fun bt402=>(some (jobs,m,(r.set (an:Int).toNat ((rd_L7 r (an:Int)).set (0:Int).toNat (⟨(rd_T116 (rd_L7 r (an:Int)) 0).f0,wrap64 ((wrap64 (((rd_T116 (rd_L7 r (an:Int)) 0).f1) + bt402.1)) - 1),(rd_T116 (rd_L7 r (an:Int)) 0).f2⟩:PSpan)))))) else (none)) else (some (jobs,m,r))) else (none)) else (none)) else (if c=2 then (if 0≤(an:Int) then (if (an:Int)<(r.length:Int) then (if ((rd_L7 r (an:Int)).length:Int)>0 then (if 0≤(wrap64 (((rd_L7 r (an:Int)).length:Int) - 1)) then (if (wrap64 (((rd_L7 r (an:Int)).length:Int) - 1))<((rd_L7 r (an:Int)).length:Int) then ((some (r.set (an:Int).toNat ((rd_L7 r (an:Int)).set ((wrap64 (((rd_L7 r (an:Int)).length:Int) - 1)):Int).toNat (⟨(rd_T116 (rd_L7 r (an:Int)) (wrap64 (((rd_L7 r (an:Int)).length:Int) - 1))).f0,wrap64 (((rd_T116 (rd_L7 r (an:Int)) (wrap64 (((rd_L7 r (an:Int)).length:Int) - 1))).f1) + 3),(rd_T116 (rd_L7 r (an:Int)) (wrap64 (((rd_L7 r (an:Int)).length:Int) - 1))).f2⟩:PSpan)):List (List (PSpan)))).bind fun y415=>(if (wrap64 (((rd_L7 r (an:Int)).length:Int) - 1))<((rd_L7 y415 (an:Int)).length:Int) then (some (jobs,m,(y415.set (an:Int).toNat ((rd_L7 y415 (an:Int)).set ((wrap64 (((rd_L7 r (an:Int)).length:Int) - 1)):Int).toNat (⟨(rd_T116 (rd_L7 y415 (an:Int)) (wrap64 (((rd_L7 r (an:Int)).length:Int) - 1))).f0,(rd_T116 (rd_L7 y415 (an:Int)) (wrap64 (((rd_L7 r (an:Int)).length:Int) - 1))).f1,wrap64 (((rd_T116 (rd_L7 y415 (an:Int)) (wrap64 (((rd_L7 r (an:Int)).length:Int) - 1))).f2) + 3)⟩:PSpan))))) else (none))) else (none)) else (none)) else (some (jobs,m,r))) else (none)) else (none)) else (if c=3 then (if 0≤(an:Int) then (if (an:Int)<(r.length:Int) then (if ((rd_L7 r (an:Int)).length:Int)>0 then ((spec_l1Cur_pick.f s p4 q4 (wrap64 ((jobs.length:Int) + 2))).bind fun bt424=>(if 0<((rd_L7 r (an:Int)).length:Int) then (some (jobs,m,(r.set (an:Int).toNat ((rd_L7 r (an:Int)).set (0:Int).toNat (⟨wrap64 (bt424.1 - 1),(rd_T116 (rd_L7 r (an:Int)) 0).f1,(rd_T116 (rd_L7 r (an:Int)) 0).f2⟩:PSpan))))) else (none))) else (some (jobs,m,r))) else (none)) else (none)) else (some (jobs,m,r))))))) (jobs,m,x)→∃ (jobs:List J) (m:Int) (x:List (List PSpan)),Ev (fun k=>spec_DrawIsShared.f k s) (jobs,m,x)∧jobs.length≤100∧(-1≤m∧m≤5)∧ShortR x:=fun x hx hE=>by
   refine ⟨jobs,m,x,?_,hj,hm,hx⟩
   unfold spec_DrawIsShared.f
   refine ev_bind _ e1 ?_
   simp only [e2,Option.bind_some]
   refine ev_bind _ w1 ?_
   simp only [if_true,e3,e4,Option.bind_some]
   exact hE
  obtain ⟨v,p5,q5,e5,_⟩:=pk hs p4 q4 3 (by omega) (by omega)
  obtain ⟨v6,p6,q6,e6,_⟩:=pk hs p4 q4 (wrap64 ((jobs.length:Int) + 2)) (by omega) (by omega)
  have hset:∀ (i:Nat) (u:PSpan),ShortR (r.set (an:Int).toNat ((rd_L7 r (an:Int)).set i u)):=fun i u=>by rw [Int.toNat_natCast];exact short_set hr han
  have n0:=show 0≤(an:Int) by omega
  have n1:=show (an:Int)<(r.length:Int) by omega
  have hself:∀ y:List PSpan,rd_L7 (r.set an y) (an:Int)=y:=fun y=>by rw [rdLSp_set han,if_pos rfl]
  by_cases c0:c=0
  ·refine go (r++[[]]) ⟨by rw [List.length_append,List.length_singleton];have:=h.2.1;omega,fun b hb=>?_⟩ ?_
   ·rw [rdLSS hb,List.getElem_append]
    split
    ·rename_i hb2
     have:=hr.2 b hb2
     rwa [rdLSS hb2] at this
    ·simp
   ·simp only [if_pos c0,if_pos (show r.length<5864062014805 by omega)]
    exact Ev.now _
  by_cases hz:((rd_L7 r (an:Int)).length:Int)>0
  ·have w3:wrap64 (((rd_L7 r (an:Int)).length:Int) - 1)=((rd_L7 r (an:Int)).length:Int) - 1:=wr (by omega) (by omega)
   by_cases c1:c=1
   ·refine go _ (hset (0:Int).toNat ⟨(rd_T116 (rd_L7 r (an:Int)) 0).f0,wrap64 ((wrap64 (((rd_T116 (rd_L7 r (an:Int)) 0).f1) + v)) - 1),(rd_T116 (rd_L7 r (an:Int)) 0).f2⟩) ?_
    simp only [if_neg c0,if_pos c1,if_pos n0,if_pos n1,if_pos hz,if_pos (show 0<((rd_L7 r (an:Int)).length:Int) from hz),e5,Option.bind_some]
    exact Ev.now _
   by_cases c2:c=2
   ·obtain ⟨y,hy⟩:∃ y,y=(rd_L7 r (an:Int)).set (((rd_L7 r (an:Int)).length:Int) - 1).toNat (⟨(rd_T116 (rd_L7 r (an:Int)) (((rd_L7 r (an:Int)).length:Int) - 1)).f0,wrap64 (((rd_T116 (rd_L7 r (an:Int)) (((rd_L7 r (an:Int)).length:Int) - 1)).f1) + 3),(rd_T116 (rd_L7 r (an:Int)) (((rd_L7 r (an:Int)).length:Int) - 1)).f2⟩:PSpan):=⟨_,rfl⟩
    have hyl:y.length=(rd_L7 r (an:Int)).length:=by rw [hy,List.length_set]
    have hs2:ShortR (r.set an y):=by rw [hy];exact short_set hr han
    have hf:∀ (i:Nat) (u:PSpan),ShortR ((r.set an y).set (an:Int).toNat (y.set i u)):=fun i u=>by
     have:=short_set hs2 (a:=an) (by rw [List.length_set];exact han) (i:=i) (v:=u)
     rw [hself] at this
     rwa [Int.toNat_natCast]
    refine go _ (hf (((rd_L7 r (an:Int)).length:Int) - 1).toNat ⟨(rd_T116 y (((rd_L7 r (an:Int)).length:Int) - 1)).f0,(rd_T116 y (((rd_L7 r (an:Int)).length:Int) - 1)).f1,wrap64 (((rd_T116 y (((rd_L7 r (an:Int)).length:Int) - 1)).f2) + 3)⟩) ?_
    simp only [if_neg c0,if_neg c1,if_pos c2,if_pos n0,if_pos n1,if_pos hz,w3,if_pos (show 0≤((rd_L7 r (an:Int)).length:Int) - 1 by omega),if_pos (show ((rd_L7 r (an:Int)).length:Int) - 1<((rd_L7 r (an:Int)).length:Int) by omega),Option.bind_some,Int.toNat_natCast,←hy,hself,if_pos (show ((rd_L7 r (an:Int)).length:Int) - 1<(y.length:Int) by omega)]
    exact Ev.now _
   by_cases c3:c=3
   ·refine go _ (hset (0:Int).toNat ⟨wrap64 (v6 - 1),(rd_T116 (rd_L7 r (an:Int)) 0).f1,(rd_T116 (rd_L7 r (an:Int)) 0).f2⟩) ?_
    simp only [if_neg c0,if_neg c1,if_neg c2,if_pos c3,if_pos n0,if_pos n1,if_pos hz,if_pos (show 0<((rd_L7 r (an:Int)).length:Int) from hz),e6,Option.bind_some]
    exact Ev.now _
   ·refine go r hr ?_
    simp only [if_neg c0,if_neg c1,if_neg c2,if_neg c3]
    exact Ev.now _
  ·refine go r hr ?_
   by_cases c1:c=1
   ·simp only [if_neg c0,if_pos c1,if_pos n0,if_pos n1,if_neg hz]
    exact Ev.now _
   by_cases c2:c=2
   ·simp only [if_neg c0,if_neg c1,if_pos c2,if_pos n0,if_pos n1,if_neg hz]
    exact Ev.now _
   by_cases c3:c=3
   ·simp only [if_neg c0,if_neg c1,if_neg c2,if_pos c3,if_pos n0,if_pos n1,if_neg hz]
    exact Ev.now _
   ·simp only [if_neg c0,if_neg c1,if_neg c2,if_neg c3]
    exact Ev.now _
 ·obtain ⟨w1,_⟩:=wrap_bad (by omega) h
  unfold spec_DrawIsShared.f
  refine ⟨jobs,m,[[]],ev_bind _ e1 ?_,hj,hm,by simp,fun a ha=>?_⟩
  ·simp only [e2,Option.bind_some]
   refine ev_bind _ w1 ?_
   simp only [Bool.false_eq_true,if_false]
   exact Ev.now _
  ·have:a=0:=by simpa using ha
   subst this
   rw [rdLSS ha]
   simp

end Go.Proofs.Ytbcfmegepkhlpaa.Pure
-- minified
