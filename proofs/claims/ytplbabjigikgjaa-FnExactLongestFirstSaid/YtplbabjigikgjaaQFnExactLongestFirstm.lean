/- Proved here: what functions that the law FnExactLongestFirst reaches answer (evbLoop). Conditions: those that each theorem names. -/
import Derived.Test.YtplbabjigikgjaaQFnExactLongestFirstj
set_option linter.unusedVariables false
set_option linter.unusedSimpArgs false
namespace Go.Proofs.Ytplbabjigikgjaa.Pure
open Go.RowKit Go.Proofs.Ytplbabjigikgjaa.XFnExactLongestFirst Go.Proofs.YtplbabjigikgjaaW.PrintWords Go.Proofs.YtplbabjigikgjaaW.PrintLast

theorem evB_step {g:Nat→Option Bool} (g':Nat→Option Bool) {R:Prop} (h:∀ k,g (k + 1)=g' k) (hR:EvB g' R):EvB g R:=by
 obtain ⟨b,hb,e⟩:=hR
 exact ⟨b,ev_go _ h hb,e⟩
theorem evB_leaf {g:Nat→Option Bool} (g':Nat→Option Bool) {P R:Prop} (h1:P→∀ k,g (k + 1)=g' k) (h2:¬ P→∀ k,g (k + 1)=some false) (hR:EvB g' R):EvB g (P∧R):=by
 by_cases p:P
 ·exact evB_iff (evB_step g' (h1 p) hR) ⟨fun r=>⟨p,r⟩,fun r=>r.2⟩
 ·exact evB_of (fun h=>absurd h.1 p) (fun _=>ev_stop (h2 p))
theorem evB_loop (n:Nat) (g:Nat→Nat→Option Bool) (P:Nat→Prop) (Q:Prop) (hstop:EvB (g n) Q) (hstep:∀ i,i<n→∀ R,EvB (g (i + 1)) R→EvB (g i) (P i∧R)):EvB (g 0) ((∀ i,i<n→P i)∧Q):=by
 have key:=rev_ind (P:=fun i=>EvB (g i) ((∀ j,i≤j→j<n→P j)∧Q)) n ?_ ?_ 0 (Nat.zero_le _)
 ·exact evB_iff key ⟨fun h=>⟨fun i hi=>h.1 i (Nat.zero_le _) hi,h.2⟩,fun h=>⟨fun i _ hi=>h.1 i hi,h.2⟩⟩
 ·exact evB_iff hstop ⟨fun h=>⟨fun j h1 h2=>absurd h1 (by omega),h⟩,fun h=>h.2⟩
 ·intro i hi ih
  refine evB_iff (hstep i hi _ ih) ⟨fun h=>⟨fun j h1 h2=>?_,h.2.2⟩,fun h=>⟨h.1 i (Nat.le_refl _) hi,fun j h1 h2=>h.1 j (by omega) h2,h.2⟩⟩
  by_cases e:j=i
  ·rw [e];exact h.1
  ·exact h.2.1 j (by omega) h2

end Go.Proofs.Ytplbabjigikgjaa.Pure
-- minified
