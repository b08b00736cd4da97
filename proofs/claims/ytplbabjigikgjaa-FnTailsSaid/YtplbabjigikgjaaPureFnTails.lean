/- Proved here: the statement over numbers and lists alone of the law FnTails, for all its arguments within the bounds that it names. Conditions: those that each theorem names. -/
import Derived.Test.YtplbabjigikgjaaQFnTailsxc
set_option linter.unusedVariables false
set_option linter.unusedSimpArgs false
namespace Go.Proofs.Ytplbabjigikgjaa.Pure
open Go.RowKit Go.Proofs.Ytplbabjigikgjaa.XFnTails Go.Proofs.YtplbabjigikgjaaW.PrintWords Go.Proofs.YtplbabjigikgjaaW.PrintLast

theorem ev_eq2 {α:Type} {g:Nat→Option α} {r r':α} (h:Ev g r) (e:r=r'):Ev g r':=e ▸ h
theorem tails_l3 (jobs:List J) (ch:List Int) (R:List A2) (M:Int) (i:Nat) (h0:1≤i) (hi:i<ch.length) (hc:ch.length≤1000) (hR:R.length≤10000000) (next:Ev (fun k=>laws_FnTails.l2 k jobs ch R M ((i + 1:Nat):Int)) true):∀ (c j:Nat) (b:Bool),R.length=j + c→(b=true∨(⟨ch[i - 1],ch[i]⟩:A2) ∈ R.drop j)→Ev (fun k=>laws_FnTails.l3 k jobs ch R M (i:Int) b (j:Int)) true:=by
 intro c
 induction c with
 | zero=>
  intro j b h1 h2
  have hb:b=true:=h2.resolve_right (by rw [List.drop_eq_nil_of_le (by omega)];simp)
  refine ev_go _ (fun k=>?_) next
  simp only [laws_FnTails.l3];rw [if_neg (by omega),if_pos hb,wr1 (by omega)]
 | succ c ih=>
  intro j b h1 h2
  have hj:j<R.length:=by omega
  by_cases cb:b=true
  ·refine ev_go _ (fun k=>?_) (ih (j + 1) true (by omega) (.inl rfl))
   simp only [laws_FnTails.l3];rw [if_pos (by omega),if_pos cb,wr1 (by omega)]
  ·have h3:=h2.resolve_left cb
   rw [drop_cons hj] at h3
   have wi:wrap64 ((i:Int) - 1)=((i - 1:Nat):Int):=by rw [wr (by omega) (by omega)];omega
   refine ev_go _ (fun k=>?_) (ih (j + 1) (R[j].f0 == ch[i - 1] && (R[j].f1 == ch[i])) (by omega) ?_)
   ·simp only [laws_FnTails.l3];rw [if_pos (by omega),if_neg cb,if_pos (by omega),wi,if_pos (by omega),if_pos (by omega),if_pos (by omega),if_pos (by omega),rdA2 hj,rd_nat hi,rd_nat (show i - 1<ch.length by omega),wr1 (by omega)]
   ·rcases List.mem_cons.1 h3 with e|h3
    ·exact .inl (by rw [←e];simp)
    ·exact .inr h3
theorem tails_l2 (jobs:List J) (hj:JobsOk jobs) {f:BF} (hp:PreF jobs.length f) (ch:List Int) (M:Int) (hc:ch.length≤500) (hP:ChainP jobs f ch M) (he:ch=[] ↔ M=0):Ev (fun k=>laws_FnTails.l2 k jobs ch (redL f jobs.length (pis f jobs.length jobs.length 0)) M 1) true:=by
 have hL:(redL f jobs.length (pis f jobs.length jobs.length 0)).length≤10000000:=by
  have h1:(redL f jobs.length (pis f jobs.length jobs.length 0)).length≤(pis f jobs.length jobs.length 0).length:=List.length_filter_le _ _
  have h2:=pis_len f jobs.length jobs.length 0
  have h8:=hj.1
  have h3:jobs.length * jobs.length≤8 * 8:=Nat.mul_le_mul h8 h8
  omega
 have hv:=laws_vTimes.ev jobs hj ch (by omega) (chain_in jobs f ch M hP)
 have hs:sumT jobs ch=M:=by
  by_cases e:ch=[]
  ·rw [he.1 e,e];rfl
  ·exact chain_sum jobs f ch M hP e
 have fin:∀ i:Nat,¬ i<ch.length→Ev (fun k=>laws_FnTails.l2 k jobs ch (redL f jobs.length (pis f jobs.length jobs.length 0)) M (i:Int)) true:=fun i hi=>by
  refine ev_go (fun k=>(laws_vTimes.f k jobs ch).bind fun t=>some (t == M)) (fun k=>?_) (ev_bind _ hv (ev_eq2 (Ev.now _) (by rw [hs];simp)))
  simp only [laws_FnTails.l2];rw [if_neg (by omega)]
 by_cases h1:1<ch.length
 ·refine rev_ind (P:=fun i=>1≤i→Ev (fun k=>laws_FnTails.l2 k jobs ch (redL f jobs.length (pis f jobs.length jobs.length 0)) M (i:Int)) true) ch.length (fun _=>fin _ (by omega)) ?_ 1 (by omega) (by omega)
  intro i hi ih h2
  obtain ⟨q1,q2,q3,q4⟩:=chain_pair jobs f ch M hP (i - 1) (by omega)
  have e1:ch[i - 1 + 1]=ch[i]:=by congr 1;omega
  rw [e1] at q2 q3 q4
  have hm:=red_best jobs hj hp (show ch[i - 1].toNat<jobs.length by omega) (show ch[i].toNat<jobs.length by omega) q3 (by omega)
  rw [Int.toNat_of_nonneg q1.1,Int.toNat_of_nonneg q2.1] at hm
  refine ev_go _ (fun k=>?_) (tails_l3 jobs ch _ M i h2 hi (by omega) hL (ih (by omega)) (redL f jobs.length (pis f jobs.length jobs.length 0)).length 0 false (by omega) (.inr (by simpa using hm)))
  simp only [laws_FnTails.l2];rw [if_pos (by omega)];rfl
 ·exact fin 1 h1
theorem tails_l1 (jobs:List J) (tails ch:List Int) (R:List A2) (most:Int) (i:Nat) (hi:i<jobs.length) (ht:tails.length=jobs.length) (hn:jobs.length≤1000) (hR:R.length≤10000000) (hin:∀ p ∈ R,0≤p.f1∧p.f1<(tails.length:Int)) (B:Int) (heq:rd tails (i:Int)=wrap64 ((rd_T47 jobs (i:Int)).f0 + B)) (next:Ev (fun k=>laws_FnTails.l0 k jobs tails ch R (if rd tails (i:Int)>most then rd tails (i:Int) else most) ((i + 1:Nat):Int)) true):∀ (c j:Nat) (s:Int),R.length=j + c→behF tails i (R.drop j) s=B→Ev (fun k=>laws_FnTails.l1 k jobs tails ch R most (i:Int) s (j:Int)) true:=by
 intro c
 induction c with
 | zero=>
  intro j s h1 h2
  rw [List.drop_eq_nil_of_le (by omega),behF] at h2
  subst h2
  refine ev_go _ (fun k=>?_) next
  simp only [laws_FnTails.l1];rw [if_neg (by omega),if_pos (by omega),if_pos (by omega),if_pos (by omega),if_pos heq,wr1 (by omega)]
  split <;> rfl
 | succ c ih=>
  intro j s h1 h2
  have hj:j<R.length:=by omega
  have hm:=hin R[j] (List.getElem_mem hj)
  rw [drop_cons hj,behF] at h2
  refine ev_go _ (fun k=>?_) (ih (j + 1) _ (by omega) h2)
  simp only [laws_FnTails.l1];rw [if_pos (by omega),if_pos (by omega),rdA2 hj,wr1 (by omega)]
  by_cases c1:R[j].f0=(i:Int)
  ·rw [if_pos c1,if_pos hm.1,if_pos hm.2]
   by_cases c2:rd tails R[j].f1>s
   ·rw [if_pos c2,if_pos ⟨c1,c2⟩]
   ·rw [if_neg c2,if_neg (fun h=>c2 h.2)]
  ·rw [if_neg c1,if_neg (fun h=>c1 h.1)]
theorem laws_vInts.same (l:List Int) (hl:l.length≤100000000):Ev (fun k=>laws_vInts.f k l l) true:=by
 unfold laws_vInts.f
 simp only [if_true]
 refine rev_ind (P:=fun i=>Ev (fun k=>laws_vInts.l0 k l l (i:Int)) true) l.length ?_ ?_ 0 (Nat.zero_le _)
 ·refine ev_stop fun k=>?_
  simp only [laws_vInts.l0];rw [if_neg (by omega)]
 ·intro i hi ih
  refine ev_go _ (fun k=>?_) ih
  simp only [laws_vInts.l0];rw [if_pos (by omega),if_pos (by omega),if_pos (by omega),if_pos trivial,wr1 (by omega)]
theorem FnTails (l0:List Int) (h0:l0.length≤maxLen∧∀ x ∈ l0,(Lit.int .u8 x).wf=true):∃ k,laws_FnTails.f k l0=some true:=by
 refine Ev.rounds (g:=fun k=>laws_FnTails.f k l0) ?_
 unfold laws_FnTails.f laws_vBig.f
 simp only [Option.bind_some]
 by_cases hb:decide ((l0.length:Int)>65536)=true
 ·simp only [if_pos hb];exact Ev.now _
 simp only [if_neg hb]
 obtain ⟨jobs,E,hd,hj,hE⟩:=spec_DrawTailsOf.tot (s:=l0) h0.2
 obtain ⟨r,b,hs,hi,hr,hc⟩:=chainBoth jobs E (by omega) (by omega)
 have es:=spec_l7Good.ev jobs 1 E (by omega) (by omega)
 have ei:=impl_isParallel.ev jobs 1 E (by omega) (by omega)
 refine ev_bind _ hd ?_
 by_cases h:ParOk jobs 1 E
 ·have h8:=h.1.1.1
  have t1:Ev (fun k=>spec_TailsOf.f k jobs E) (tailsL jobs (cloF jobs.length E),true):=by
   unfold spec_TailsOf.f
   exact ev_guard' es (fun _=>ev_bind _ (spec_l7Tails.ev jobs E h.1.1 h.2.2) (Ev.now _)) (fun hn=>absurd h hn)
  have t2:Ev (fun k=>impl_TailsOf.f k jobs E) (tailsL jobs (cloF jobs.length E),true):=by
   unfold impl_TailsOf.f
   exact ev_guard' ei (fun _=>ev_bind _ (impl_tailsOf.ev jobs E h.1.1 h.2.2) (Ev.now _)) (fun hn=>absurd h hn)
  have hp:=h.pre
  obtain ⟨hc1,hc2⟩:=hc h
  have tl:=tailsL_len jobs (cloF jobs.length E)
  refine ev_bind _ t2 (ev_bind _ t1 (ev_bind _ hi (ev_bind _ hs ?_)))
  simp only [bne_self_eq_false,Bool.false_eq_true,if_false]
  refine ev_bind true (laws_vInts.same _ (by omega)) ?_
  simp only [if_true]
  refine ev_bind true (laws_vInts.same r (by omega)) ?_
  have hred:Ev (fun k=>impl_PrecedenceReduction.f k (jobs.length:Int) E) (redL (cloF jobs.length E) jobs.length (pis (cloF jobs.length E) jobs.length jobs.length 0),true):=by
   unfold impl_PrecedenceReduction.f
   have e1:=impl_IsPrecedence.ev (jobs.length:Int) E (by omega)
   exact ev_guard' e1 (fun _=>ev_bind _ (impl_closure.ev jobs.length E (by omega) (by omega) (PairsOk.edg h.2.2.1.2.2)) (ev_bind _ (impl_reduction.ev (by omega)) (Ev.now _))) (fun hn=>absurd h.2.2 hn)
  generalize cloF jobs.length E=f at *
  have hL:(redL f jobs.length (pis f jobs.length jobs.length 0)).length≤10000000:=by
   have h1:(redL f jobs.length (pis f jobs.length jobs.length 0)).length≤(pis f jobs.length jobs.length 0).length:=List.length_filter_le _ _
   have h2:=pis_len f jobs.length jobs.length 0
   have h3:jobs.length * jobs.length≤8 * 8:=Nat.mul_le_mul h8 h8
   omega
  have hin:∀ p ∈ redL f jobs.length (pis f jobs.length jobs.length 0),0≤p.f1∧p.f1<((tailsL jobs f).length:Int):=fun p hp2=>by
   obtain ⟨a,b2,_,hb2,_,_,rfl⟩:=redL_mem.1 hp2
   rw [tl]
   exact ⟨by show (0:Int)≤(b2:Int);omega,by show (b2:Int)<(jobs.length:Int);omega⟩
  have fin:=tails_l2 jobs h.1.1 hp r (mxW (tailsL jobs f) 0) hr hc2 hc1
  have loop:=rev_ind (P:=fun i=>∀ most:Int,mxW ((tailsL jobs f).drop i) most=mxW (tailsL jobs f) 0→Ev (fun k=>laws_FnTails.l0 k jobs (tailsL jobs f) r (redL f jobs.length (pis f jobs.length jobs.length 0)) most (i:Int)) true) jobs.length ?_ ?_ 0 (Nat.zero_le _) 0 (by simp)
  ·refine ev_succ ?_
   simp only [laws_FnTails.j0,Bool.not_true,Bool.false_eq_true,if_false,if_true]
   exact ev_bind _ hred loop
  ·intro most hm
   rw [List.drop_eq_nil_of_le (by omega),mxW] at hm
   subst hm
   refine ev_go _ (fun k=>?_) fin
   simp only [laws_FnTails.l0];rw [if_neg (by omega)]
  ·intro i hi2 ih most hm
   have hti:i<(tailsL jobs f).length:=by omega
   have hr2:=tailsL_rd jobs f hi2
   have hg:(tailsL jobs f)[i]=TL jobs f i:=by rw [←hr2,rd_nat hti]
   rw [drop_cons hti,mxW,hg] at hm
   have hpos:=TL_pos jobs h.1.1 hp i hi2
   have hbe:=beh_eq jobs h.1.1 hp hi2
   refine ev_go _ (fun k=>?_) (tails_l1 jobs (tailsL jobs f) r _ most i hi2 tl (by omega) hL hin (behF (tailsL jobs f) i (redL f jobs.length (pis f jobs.length jobs.length 0)) 0) (by
    have e:(rd_T47 jobs (i:Int)).f0=tmF jobs i:=rfl
    rw [hr2,e,←hbe,wr (by omega) (by omega)]) (ih _ (by
    rw [hr2,←hm]
    congr 1)) (redL f jobs.length (pis f jobs.length jobs.length 0)).length 0 0 (by omega) rfl)
   simp only [laws_FnTails.l0];rw [if_pos (by omega)];rfl
 ·have t1:Ev (fun k=>spec_TailsOf.f k jobs E) (([]:List Int),false):=by
   unfold spec_TailsOf.f
   exact ev_guard' es (fun hn=>absurd hn h) (fun _=>Ev.now _)
  have t2:Ev (fun k=>impl_TailsOf.f k jobs E) (([]:List Int),false):=by
   unfold impl_TailsOf.f
   exact ev_guard' ei (fun hn=>absurd hn h) (fun _=>Ev.now _)
  refine ev_bind _ t2 (ev_bind _ t1 (ev_bind _ hi (ev_bind _ hs ?_)))
  simp only [bne_self_eq_false,Bool.false_eq_true,if_false]
  refine ev_bind true (laws_vInts.same _ (by simp)) ?_
  simp only [if_true]
  refine ev_bind true (laws_vInts.same r (by omega)) ?_
  refine ev_succ ?_
  simp only [laws_FnTails.j0,Bool.not_true,Bool.false_eq_true,if_false]
  exact Ev.now _

end Go.Proofs.Ytplbabjigikgjaa.Pure
-- minified
