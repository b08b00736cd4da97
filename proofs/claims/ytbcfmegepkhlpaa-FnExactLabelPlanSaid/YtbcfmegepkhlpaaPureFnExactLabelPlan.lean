/- Proved here: the statement over numbers and lists alone of the law FnExactLabelPlan, for all its arguments within the bounds that it names. Conditions: those that each theorem names. -/
import Derived.Test.YtbcfmegepkhlpaaQFnExactLabelPlanxr
set_option linter.unusedVariables false
set_option linter.unusedSimpArgs false
namespace Go.Proofs.Ytbcfmegepkhlpaa.Pure
open Go.RowKit Go.Proofs.Ytbcfmegepkhlpaa.XFnExactLabelPlan Go.Proofs.YtbcfmegepkhlpaaW.PrintWords Go.Proofs.YtbcfmegepkhlpaaW.PrintLast

theorem FnExactLabelPlan (a0:Int) (l1:List S72) (h0:(Lit.int .i64 a0).wf=true) (h1:l1.length≤maxLen∧∀ n ∈ l1,(Lit.int .i64 n.f0).wf=true∧(Lit.int .i64 n.f1).wf=true):∃ k,laws_FnExactLabelPlan.f k a0 l1=some true:=by
 suffices hh:∃ k,FnExactLabelPlan_ok k a0 l1 from by obtain ⟨k,hk⟩:=hh;exact ⟨k,by unfold laws_FnExactLabelPlan.f;exact if_pos hk⟩
 unfold FnExactLabelPlan_ok
 obtain ⟨n1,hn1,hb1,hz1⟩:=laws_szIntA2S.eq l1 1048576 (by omega) (by omega) (by have:=h1.1;unfold maxLen at this;omega)
 by_cases hm1:n1<0
 ·exact ⟨0,⟨n1,hn1,Or.inl hm1⟩⟩
 have hs1:=hz1 (by omega)
 have hc1:=hs1
 have ht1:=laws_toIntA2S.ev l1 (by omega)
 have he1:=laws_eqIntA2S.same l1 (by omega)
 obtain ⟨r,b,hsp,him,hr⟩:=core_LabelPlan a0 l1 h0 hc1
 have her:=laws_eqTaskS.same r (by omega)
 obtain ⟨m1,x1,hmk1,hma1,hmb1,hmc1⟩:=laws_markIntA2S.any l1 1 (by omega) (by omega) hc1
 obtain ⟨q,g,hg,hh,hgn⟩:=laws_markTaskS.held r hr
 obtain ⟨k_ht1,e_ht1⟩:=ht1
 obtain ⟨k_hsp,e_hsp⟩:=hsp
 obtain ⟨k_him,e_him⟩:=him
 obtain ⟨k_her,e_her⟩:=her
 obtain ⟨k_he1,e_he1⟩:=he1
 obtain ⟨k_hmk1,e_hmk1⟩:=hmk1
 obtain ⟨k_hg,e_hg⟩:=hg
 obtain ⟨k_hh,e_hh⟩:=hh
 exact ⟨k_ht1 + k_hsp + k_him + k_her + k_he1 + k_hmk1 + k_hg + k_hh,⟨n1,hn1,Or.inr ⟨hm1,⟨r,b,m1,x1,q,g,e_ht1 _ (by omega),e_hsp _ (by omega),e_him _ (by omega),e_her _ (by omega),e_he1 _ (by omega),e_hmk1 _ (by omega),by omega,e_hg _ (by omega),e_hh _ (by omega),by rw [hgn];exact id⟩⟩⟩⟩

end Go.Proofs.Ytbcfmegepkhlpaa.Pure
-- minified
