/- Proved here: what functions that the law FnExactLongestFirst reaches answer (plainOk, spec_l3Plain, impl_isPlain, impl_IsPlain). Conditions: those that each theorem names. -/
import Derived.Test.YtplbabjigikgjaaQFnExactLongestFirsth
set_option linter.unusedVariables false
set_option linter.unusedSimpArgs false
namespace Go.Proofs.Ytplbabjigikgjaa.Pure
open Go.RowKit Go.Proofs.Ytplbabjigikgjaa.XFnExactLongestFirst Go.Proofs.YtplbabjigikgjaaW.PrintWords Go.Proofs.YtplbabjigikgjaaW.PrintLast

def NoRel (l:List J):Prop:=∀ j ∈ l,j.f2=0
def PlainOk (l:List J):Prop:=JobsOk l∧NoRel l
theorem noRel_cons {x:J} {l:List J} : NoRel (x::l) ↔ x.f2=0∧NoRel l:=by simp [NoRel]

theorem spec_l3Plain.ev (l:List J) (hl:l.length≤1000000000000):EvB (fun k=>spec_l3Plain.f k l) (NoRel l):=by
 have key:=rev_ind (P:=fun i=>EvB (fun k=>spec_l3Plain.l0 k l (i:Int)) (NoRel (l.drop i))) l.length ?_ ?_ 0 (Nat.zero_le _)
 ·simpa [spec_l3Plain.f] using key
 ·refine evB_of (fun _=>ev_stop fun k=>?_) (fun h=>absurd (by rw [List.drop_length];intro j hj;cases hj) h)
  simp only [spec_l3Plain.l0];rw [if_neg (by omega)]
 ·intro i hi ih
  rw [drop_cons hi,noRel_cons]
  by_cases q:l[i].f2=0
  ·obtain ⟨c,hb,hP⟩:=ih
   refine ⟨c,ev_go _ (fun k=>?_) hb,hP.trans ⟨fun h=>⟨q,h⟩,fun h=>h.2⟩⟩
   simp only [spec_l3Plain.l0];rw [if_pos (by omega),if_pos (by omega),rdJ hi,if_pos q,wr1 (by omega)]
  ·refine evB_of (fun h=>absurd h.1 q) (fun _=>ev_stop fun k=>?_)
   simp only [spec_l3Plain.l0];rw [if_pos (by omega),if_pos (by omega),rdJ hi,if_neg q]

theorem impl_isPlain.ev (l:List J) (hl:l.length≤1000000000000):EvB (fun k=>impl_isPlain.f k l) (NoRel l):=by
 have key:=rev_ind (P:=fun i=>EvB (fun k=>impl_isPlain.l0 k l (l.length:Int) (i:Int)) (NoRel (l.drop i))) l.length ?_ ?_ 0 (Nat.zero_le _)
 ·simpa [impl_isPlain.f] using key
 ·refine evB_of (fun _=>ev_stop fun k=>?_) (fun h=>absurd (by rw [List.drop_length];intro j hj;cases hj) h)
  simp only [impl_isPlain.l0];rw [if_neg (by omega)]
 ·intro i hi ih
  rw [drop_cons hi,noRel_cons]
  by_cases q:l[i].f2=0
  ·obtain ⟨c,hb,hP⟩:=ih
   refine ⟨c,ev_go _ (fun k=>?_) hb,hP.trans ⟨fun h=>⟨q,h⟩,fun h=>h.2⟩⟩
   simp only [impl_isPlain.l0];rw [if_pos (by omega),if_pos (by omega),if_pos (by omega),rdJ hi,if_pos q,wr1 (by omega)]
  ·refine evB_of (fun h=>absurd h.1 q) (fun _=>ev_stop fun k=>?_)
   simp only [impl_isPlain.l0];rw [if_pos (by omega),if_pos (by omega),if_pos (by omega),rdJ hi,if_neg q]

theorem impl_IsPlain.ev (l:List J) (hl:l.length≤1000000000000):EvB (fun k=>impl_IsPlain.f k l) (PlainOk l):=by
 unfold impl_IsPlain.f PlainOk
 refine evB_of (fun h=>?_) (fun h=>?_)
 ·refine evB_bind (impl_IsJobs.ev l) (fun _=>?_) (fun h'=>absurd h.1 h')
  simp only [if_true]
  exact evB_bind (impl_isPlain.ev l hl) (fun _=>Ev.now _) (fun h'=>absurd h.2 h')
 ·refine evB_bind (impl_IsJobs.ev l) (fun h1=>?_) (fun _=>by simp only [Bool.false_eq_true,if_false];exact Ev.now _)
  simp only [if_true]
  exact evB_bind (impl_isPlain.ev l hl) (fun h2=>absurd ⟨h1,h2⟩ h) (fun _=>Ev.now _)

end Go.Proofs.Ytplbabjigikgjaa.Pure
-- minified
