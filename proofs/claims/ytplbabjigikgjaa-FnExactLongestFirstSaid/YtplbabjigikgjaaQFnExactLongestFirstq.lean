/- Proved here: what functions that the law FnExactLongestFirst reaches answer (evbC). Conditions: those that each theorem names. -/
import Derived.Test.YtplbabjigikgjaaQFnExactLongestFirstm
set_option linter.unusedVariables false
set_option linter.unusedSimpArgs false
namespace Go.Proofs.Ytplbabjigikgjaa.Pure
open Go.RowKit Go.Proofs.Ytplbabjigikgjaa.XFnExactLongestFirst Go.Proofs.YtplbabjigikgjaaW.PrintWords Go.Proofs.YtplbabjigikgjaaW.PrintLast

theorem evB_condC {g:Nat→Option Bool} (g':Nat→Option Bool) {C R:Prop} (h1:C→∀ k,g (k + 1)=g' k) (h2:¬ C→Ev g false) (hR:C→EvB g' R):EvB g (C∧R):=by
 by_cases c:C
 ·obtain ⟨b,hb,e⟩:=hR c
  exact ⟨b,ev_go _ (h1 c) hb,e.trans ⟨fun r=>⟨c,r⟩,fun r=>r.2⟩⟩
 ·exact evB_of (fun h=>absurd h.1 c) (fun _=>h2 c)
theorem evB_loopC (n:Nat) (g:Nat→Nat→Option Bool) (P:Nat→Prop) (Q:Prop) (hstop:(∀ j,j<n→P j)→EvB (g n) Q) (hstep:∀ i,i<n→(∀ j,j<i→P j)→∀ R,(P i→EvB (g (i + 1)) R)→EvB (g i) (P i∧R)):EvB (g 0) ((∀ i,i<n→P i)∧Q):=by
 have key:=rev_ind (P:=fun i=>(∀ j,j<i→P j)→EvB (g i) ((∀ j,i≤j→j<n→P j)∧Q)) n ?_ ?_ 0 (Nat.zero_le _) (fun j hj=>absurd hj (by omega))
 ·exact evB_iff key ⟨fun h=>⟨fun i hi=>h.1 i (Nat.zero_le _) hi,h.2⟩,fun h=>⟨fun i _ hi=>h.1 i hi,h.2⟩⟩
 ·intro hlt
  exact evB_iff (hstop hlt) ⟨fun h=>⟨fun j h1 h2=>absurd h1 (by omega),h⟩,fun h=>h.2⟩
 ·intro i hi ih hlt
  refine evB_iff (hstep i hi hlt _ (fun hp=>ih (fun j hj=>?_))) ⟨fun h=>⟨fun j h1 h2=>?_,h.2.2⟩,fun h=>⟨h.1 i (Nat.le_refl _) hi,fun j h1 h2=>h.1 j (by omega) h2,h.2⟩⟩
  ·by_cases e:j=i
   ·rw [e];exact hp
   ·exact hlt j (by omega)
  ·by_cases e:j=i
   ·rw [e];exact h.1
   ·exact h.2.1 j (by omega) h2

end Go.Proofs.Ytplbabjigikgjaa.Pure
-- minified
