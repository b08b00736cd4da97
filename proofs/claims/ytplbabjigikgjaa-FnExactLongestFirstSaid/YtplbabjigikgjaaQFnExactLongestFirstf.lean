/- Proved here: what functions that the law FnExactLongestFirst reaches answer (tyTask, laws_eqTaskS). Conditions: those that each theorem names. -/
import Derived.Test.YtplbabjigikgjaaQFnExactLongestFirste
set_option linter.unusedVariables false
set_option linter.unusedSimpArgs false
namespace Go.Proofs.Ytplbabjigikgjaa.Pure
open Go.RowKit Go.Proofs.Ytplbabjigikgjaa.XFnExactLongestFirst Go.Proofs.YtplbabjigikgjaaW.PrintWords Go.Proofs.YtplbabjigikgjaaW.PrintLast

abbrev PTask:=S89
theorem rdPTask {l:List PTask} {i:Nat} (h:i<l.length):rd_T89 l (i:Int)=l[i]:=by simp [rd_T89,h]
theorem rdPTask_zero {l:List PTask} (h:0<l.length):rd_T89 l 0=l[0]:=by simp [rd_T89,h]

theorem laws_eqTask.eq (a b:PTask):∃ c,laws_eqTask.f a.f0 a.f1 a.f2 b.f0 b.f1 b.f2=some c∧(c=true ↔ a=b):=by
 obtain ⟨a0,a1,a2⟩:=a
 obtain ⟨b0,b1,b2⟩:=b
 unfold laws_eqTask.f
 by_cases h0:a0=b0
 ·by_cases h1:a1=b1
  ·by_cases h2:a2=b2
   ·exact ⟨true,by simp [h0,h1,h2],by simp [h0,h1,h2]⟩
   ·exact ⟨false,by simp [h0,h1,h2],by simp [h2]⟩
  ·exact ⟨false,by simp [h0,h1],by simp [h1]⟩
 ·exact ⟨false,by simp [h0],by simp [h0]⟩
theorem laws_eqTaskS.ev (l m:List PTask) (hl:l.length≤1000000000000000):EvB (fun k=>laws_eqTaskS.f k l m) (l=m):=by
 unfold laws_eqTaskS.f
 by_cases e:(l.length:Int)=(m.length:Int)
 ·simp only [if_pos e]
  have key:=rev_ind (P:=fun i=>EvB (fun k=>laws_eqTaskS.l0 k l m (i:Int)) (l.drop i=m.drop i)) l.length ?_ ?_ 0 (Nat.zero_le _)
  ·simpa using key
  ·refine evB_of (fun _=>ev_stop fun k=>?_) (fun h=>absurd ?_ h)
   ·simp only [laws_eqTaskS.l0];rw [if_neg (by omega)]
   ·rw [List.drop_eq_nil_of_le (by omega),List.drop_eq_nil_of_le (by omega)]
  ·intro i hi ih
   have hm:i<m.length:=by omega
   rw [drop_cons hi,drop_cons hm]
   obtain ⟨c,hc,hce⟩:=laws_eqTask.eq l[i] m[i]
   by_cases q:l[i]=m[i]
   ·obtain ⟨b,hb,hP⟩:=ih
    refine ⟨b,ev_go _ (fun k=>?_) hb,by rw [hP,q];exact ⟨fun h=>by rw [h],fun h=>(List.cons.inj h).2⟩⟩
    simp only [laws_eqTaskS.l0];rw [if_pos (by omega),if_pos (by omega),if_pos (by omega),rdPTask hi,rdPTask hm,hc,Option.bind_some,if_pos (hce.2 q),wr1 (by omega)]
   ·refine evB_of (fun h=>absurd (List.cons.inj h).1 q) (fun _=>ev_stop fun k=>?_)
    simp only [laws_eqTaskS.l0];rw [if_pos (by omega),if_pos (by omega),if_pos (by omega),rdPTask hi,rdPTask hm,hc,Option.bind_some,if_neg (fun h=>q (hce.1 h))]
 ·simp only [if_neg e]
  exact evB_of (fun h=>absurd (by rw [h]) e) (fun _=>Ev.now _)
theorem laws_eqTaskS.same (l:List PTask) (hl:l.length≤1000000000000000):Ev (fun k=>laws_eqTaskS.f k l l) true:=evB_true (laws_eqTaskS.ev l l hl) rfl

end Go.Proofs.Ytplbabjigikgjaa.Pure
-- minified
