/- Proved here: the statement over numbers and lists alone of the law FnShared, for all its arguments within the bounds that it names. Conditions: those that each theorem names. -/
import Derived.Test.YtbcfmegepkhlpaaQFnSharedxt
set_option linter.unusedVariables false
set_option linter.unusedSimpArgs false
namespace Go.Proofs.Ytbcfmegepkhlpaa.Pure
open Go.RowKit Go.Proofs.Ytbcfmegepkhlpaa.XFnShared Go.Proofs.YtbcfmegepkhlpaaW.PrintWords Go.Proofs.YtbcfmegepkhlpaaW.PrintLast

theorem isShared_both {jobs:List J} {m:Int} {x:List (List PSpan)} (hj:jobs.length≤100) (hl:x.length≤1000) (hw:∀ a:Nat,a<x.length→(rd_L7 x (a:Int)).length≤10000):∃ v ok,Ev (fun k=>impl_IsShared.f k jobs m x) (v,ok)∧Ev (fun k=>spec_IsShared.f k jobs m x) (v,ok)∧(v=true ↔ ParOk jobs m []∧(x.length:Int)=m∧SharedP jobs x)∧(ParOk jobs m []→ok=true):=by
 have es:=spec_l7Good.ev jobs m [] (by omega) (by simp)
 have ei:=impl_isParallel.ev jobs m [] (by omega) (by simp)
 obtain ⟨b,h1,h2⟩:=spec_l7Shared.ev jobs (by omega) x hl hw
 obtain ⟨b',h3,h4⟩:=impl_isShared.ev jobs (by omega) x hl hw
 have hb:b'=b:=by
  cases b <;> cases b' <;> simp_all
 subst hb
 unfold impl_IsShared.f spec_IsShared.f
 by_cases h:ParOk jobs m []
 ·by_cases c:(x.length:Int)=m
  ·refine ⟨b',true,ev_guard' ei (fun _=>?_) (fun hn=>absurd h hn),ev_guard' es (fun _=>?_) (fun hn=>absurd h hn),h2.trans ⟨fun q=>⟨h,c,q⟩,fun q=>q.2.2⟩,fun _=>rfl⟩
   ·simp only [if_pos c]
    exact ev_bind _ h3 (Ev.now _)
   ·simp only [if_pos c]
    exact ev_bind _ h1 (Ev.now _)
  ·refine ⟨false,true,ev_guard' ei (fun _=>?_) (fun hn=>absurd h hn),ev_guard' es (fun _=>?_) (fun hn=>absurd h hn),⟨fun q=>(by cases q),fun q=>absurd q.2.1 c⟩,fun _=>rfl⟩
   ·simp only [if_neg c]
    exact Ev.now _
   ·simp only [if_neg c]
    exact Ev.now _
 ·exact ⟨false,false,ev_guard' ei (fun hn=>absurd hn h) (fun _=>Ev.now _),ev_guard' es (fun hn=>absurd hn h) (fun _=>Ev.now _),⟨fun q=>(by cases q),fun q=>absurd q.1 h⟩,fun q=>absurd q h⟩
theorem laws_vSpans.same (l:List PSpan) (hl:l.length≤1000000):Ev (fun k=>laws_vSpans.f k l l) true:=by
 unfold laws_vSpans.f
 simp only [if_true]
 refine rev_ind (P:=fun i=>Ev (fun k=>laws_vSpans.l0 k l l (i:Int)) true) l.length ?_ ?_ 0 (Nat.zero_le _)
 ·refine ev_stop fun k=>?_
  simp only [laws_vSpans.l0];rw [if_neg (by omega)]
 ·intro i hi ih
  refine ev_go _ (fun k=>?_) ih
  simp only [laws_vSpans.l0];rw [if_pos (by omega),if_pos (by omega),if_pos (by omega),if_neg (by simp),wr1 (by omega)]
theorem laws_vLast.ev (x:List (List PSpan)) (hl:x.length≤1000) (hw:∀ a:Nat,a<x.length→(rd_L7 x (a:Int)).length≤10000):Ev (fun k=>laws_vLast.f k x) (lastF x.flatten 0):=by
 have app:∀ (D E:List PSpan) (a:Int),lastF (D++E) a=lastF E (lastF D a):=fun D E=>by
  induction D with
  | nil=>intro a;rfl
  | cons s D ih=>intro a;rw [List.cons_append,lastF,lastF,ih]
 have key:=rev_ind (P:=fun i=>∀ v:Int,Ev (fun k=>laws_vLast.l0 k x v (i:Int)) (lastF (x.drop i).flatten v)) x.length ?_ ?_ 0 (Nat.zero_le _) 0
 ·simpa [laws_vLast.f] using key
 ·intro v
  rw [List.drop_length]
  refine ev_stop fun k=>?_
  simp only [laws_vLast.l0];rw [if_neg (by omega)];rfl
 ·intro i hi ih v
  have hwi:=hw i hi
  rw [drop_cons hi,List.flatten_cons,app,←rdLSS hi]
  have row:=rev_ind (P:=fun j=>∀ v:Int,Ev (fun k=>laws_vLast.l1 k x v (i:Int) (j:Int)) (lastF (x.drop (i + 1)).flatten (lastF ((rd_L7 x (i:Int)).drop j) v))) (rd_L7 x (i:Int)).length ?_ ?_ 0 (Nat.zero_le _) v
  ·refine ev_go _ (fun k=>?_) row
   simp only [laws_vLast.l0];rw [if_pos (by omega)];rfl
  ·intro v
   rw [List.drop_length,lastF]
   refine ev_go _ (fun k=>?_) (ih v)
   simp only [laws_vLast.l1];rw [if_pos (by omega),if_pos (by omega),if_neg (by omega),wr1 (by omega)]
  ·intro j hj ihj v
   rw [drop_cons hj,lastF]
   refine ev_go _ (fun k=>?_) (ihj _)
   simp only [laws_vLast.l1]
   rw [if_pos (by omega),if_pos (by omega),if_pos (by omega),if_pos (by omega),wr1 (by omega),rdPSpan hj]
   split <;> rfl
theorem FnShared (l0:List Int) (h0:l0.length≤maxLen∧∀ x ∈ l0,(Lit.int .u8 x).wf=true):∃ k,laws_FnShared.f k l0=some true:=by
 refine Ev.rounds (g:=fun k=>laws_FnShared.f k l0) ?_
 unfold laws_FnShared.f laws_vBig.f
 simp only [Option.bind_some]
 by_cases hb:decide ((l0.length:Int)>65536)=true
 ·simp only [if_pos hb];exact Ev.now _
 simp only [if_neg hb]
 obtain ⟨jobs,m,x,hd,hj,hm,hx⟩:=spec_DrawIsShared.tot (s:=l0) h0.2
 have hx1:=hx.1
 have hxw:∀ a:Nat,a<x.length→(rd_L7 x (a:Int)).length≤10000:=fun a ha=>by have:=hx.2 a ha;omega
 obtain ⟨v,ok,v1,v2,v3,v4⟩:=isShared_both (jobs:=jobs) (m:=m) (x:=x) hj (by omega) hxw
 refine ev_bind _ hd (ev_bind _ v1 (ev_bind _ v2 ?_))
 by_cases h:ParOk jobs m []
 ·obtain ⟨r,w1,w2,w3,w4,w5,w6⟩:=wrap_good h
  have hm2:=h.2.1
  have hrl:r.length≤10:=by omega
  have hrw:∀ a:Nat,a<r.length→(rd_L7 r (a:Int)).length≤10000:=fun a ha=>by rw [rdLSS ha];have:=w4 _ (List.getElem_mem ha);omega
  refine ev_bind _ w2 (ev_bind _ w1 ?_)
  simp only [bne_self_eq_false,Bool.false_eq_true,if_false]
  have hJ:=h.1.1
  have hlb:Ev (fun k=>impl_LengthBound.f k jobs m []) (lenF jobs m [],true):=by
   unfold impl_LengthBound.f
   exact ev_guard' (impl_isParallel.ev jobs m [] (by omega) (by simp)) (fun _=>ev_bind _ (impl_lengthBound.ev jobs m [] hJ h.2.2 hm2) (Ev.now _)) (fun hn=>absurd h hn)
  obtain ⟨u,uk,u1,_,u3,u4⟩:=isShared_both (jobs:=jobs) (m:=m) (x:=r) hj (by omega) hrw
  have hu:u=true:=u3.2 ⟨h,w3,w5⟩
  have huk:=u4 h
  subst hu
  subst huk
  refine ev_go (fun k=>laws_FnShared.l0 k jobs m x v r true r 0) (fun k=>by simp only [laws_FnShared.j0];rw [if_neg (by decide)]) ?_
  refine rev_ind (P:=fun i=>Ev (fun k=>laws_FnShared.l0 k jobs m x v r true r (i:Int)) true) r.length ?_ ?_ 0 (Nat.zero_le _)
  ·refine ev_go (fun k=>(impl_LengthBound.f k jobs m (([]:List A2))).bind fun bt614=>((impl_IsShared.f k jobs m r).bind fun bt616=>(if bt616.2=true then (if bt616.1=true then ((laws_vLast.f k r).bind fun t618=>(if t618=bt614.1 then (if v=true then ((laws_vLast.f k x).bind fun t619=>(some (decide (t619≥bt614.1)))) else (some true)) else (some false))) else (some false)) else (some false)))) (fun k=>by simp only [laws_FnShared.l0];rw [if_neg (by omega),if_pos trivial]) ?_
   refine ev_bind _ hlb (ev_bind _ u1 ?_)
   simp only [if_true]
   refine ev_bind _ (laws_vLast.ev r (by omega) hrw) ?_
   simp only [if_pos w6]
   by_cases hv:v=true
   ·have hv2:=v3.1 hv
    have hbd:=bound_le hm2 hv2.2.1 hv2.2.2
    simp only [if_pos hv]
    refine ev_bind _ (laws_vLast.ev x (by omega) hxw) ?_
    rw [decide_eq_true (show lastF x.flatten 0≥lenF jobs m [] from hbd)]
    exact Ev.now _
   ·simp only [if_neg hv]
    exact Ev.now _
  ·intro i hi ih
   refine ev_go (fun k=>(laws_vSpans.f k (rd_L7 r (i:Int)) (rd_L7 r (i:Int))).bind fun t610=>(if t610=true then (laws_FnShared.l0 k jobs m x v r true r ((i + 1:Nat):Int)) else (some false))) (fun k=>?_) (ev_bind true (laws_vSpans.same _ (by have:=hrw i hi;omega)) (by simp only [if_true];exact ih))
   simp only [laws_FnShared.l0];rw [if_pos (by omega),if_pos (by omega),if_pos (by omega),wr1 (by omega)]
 ·obtain ⟨w1,w2⟩:=wrap_bad (by omega) h
  refine ev_bind _ w2 (ev_bind _ w1 ?_)
  simp only [bne_self_eq_false,Bool.false_eq_true,if_false]
  refine ev_go (fun k=>laws_FnShared.l0 k jobs m x v [] false [] 0) (fun k=>by simp only [laws_FnShared.j0];rw [if_neg (by decide)]) (ev_stop fun k=>?_)
  simp only [laws_FnShared.l0]
  rw [if_neg (by simp),if_neg (by decide)]

end Go.Proofs.Ytbcfmegepkhlpaa.Pure
-- minified
