/- Proved here: the statement over numbers and lists alone of the law FnExactSmithPrices, for all its arguments within the bounds that it names. Conditions: those that each theorem names. -/
import Derived.Test.YtbblhmpcpmamfaaQFnExactSmithPricesa
set_option linter.unusedVariables false
set_option linter.unusedSimpArgs false
namespace Go.Proofs.Ytbblhmpcpmamfaa.Pure
open Go.RowKit Go.Proofs.Ytbblhmpcpmamfaa.XFnExactSmithPrices Go.Proofs.YtbblhmpcpmamfaaW.PrintWords Go.Proofs.YtbblhmpcpmamfaaW.PrintLast

theorem FnExactSmithPrices (l0:List LJ) (h0:l0.length≤maxLen∧∀ n ∈ l0,(Lit.int .i64 n.f0).wf=true∧(Lit.int .i64 n.f1).wf=true∧(Lit.int .i64 n.f2).wf=true∧(Lit.int .i64 n.f3).wf=true):∃ k,laws_FnExactSmithPrices.f k l0=some true:=by
 suffices hh:∃ k,FnExactSmithPrices_ok k l0 from by obtain ⟨k,hk⟩:=hh;exact ⟨k,by unfold laws_FnExactSmithPrices.f;exact if_pos hk⟩
 unfold FnExactSmithPrices_ok
 obtain ⟨n0,hn0,hb0,hz0⟩:=laws_szJobS.eq l0 1048576 (by omega) (by omega) (by have:=h0.1;unfold maxLen at this;omega)
 by_cases hm0:n0<0
 ·exact ⟨0,⟨n0,hn0,Or.inl hm0⟩⟩
 have hs0:=hz0 (by omega)
 have hc0:(l0.map cvJ).length≤1048576:=by simpa using hs0
 have ht0:=laws_toJobS.ev l0 (by omega)
 have he0:=laws_eqJobS.same (l0.map cvJ) (by omega)
 obtain ⟨r,t0,b,hsp,him,hr,hv⟩:=core_SmithPrices (l0.map cvJ) hc0
 have her:=laws_eqSetPriceS.same r (by omega) (fun y hy=>by have:=hv y hy;omega)
 obtain ⟨m0,x0,hmk0,hma0,hmb0,hmc0⟩:=laws_markJobS.any (l0.map cvJ) 1 (by omega) (by omega) hc0
 obtain ⟨q,g,hg,hh,hgn⟩:=laws_markSetPriceS.held r hr hv
 obtain ⟨k_ht0,e_ht0⟩:=ht0
 obtain ⟨k_hsp,e_hsp⟩:=hsp
 obtain ⟨k_him,e_him⟩:=him
 obtain ⟨k_her,e_her⟩:=her
 obtain ⟨k_he0,e_he0⟩:=he0
 obtain ⟨k_hmk0,e_hmk0⟩:=hmk0
 obtain ⟨k_hg,e_hg⟩:=hg
 obtain ⟨k_hh,e_hh⟩:=hh
 exact ⟨k_ht0 + k_hsp + k_him + k_her + k_he0 + k_hmk0 + k_hg + k_hh,⟨n0,hn0,Or.inr ⟨hm0,⟨r,t0,b,(l0.map cvJ),m0,x0,q,g,e_ht0 _ (by omega),e_hsp _ (by omega),e_him _ (by omega),e_her _ (by omega),e_he0 _ (by omega),e_hmk0 _ (by omega),by omega,e_hg _ (by omega),e_hh _ (by omega),by rw [hgn];exact id⟩⟩⟩⟩

end Go.Proofs.Ytbblhmpcpmamfaa.Pure
-- minified
