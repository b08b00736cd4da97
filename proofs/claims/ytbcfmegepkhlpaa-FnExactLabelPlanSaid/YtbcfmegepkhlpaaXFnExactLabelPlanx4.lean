-- Written by a program of this session (the kit's print, widened). Proved here: what each function answers, for the arguments that its contract names.
import Derived.Test.YtbcfmegepkhlpaaXFnExactLabelPlanx0
namespace Go.Proofs.Ytbcfmegepkhlpaa.XFnExactLabelPlan
open Go.RowKit Go.Proofs.YtbcfmegepkhlpaaW.PrintWords Go.Proofs.YtbcfmegepkhlpaaW.PrintLast Go.Proofs.YtbcfmegepkhlpaaW.PrintMore
attribute [local go_sem] max2_int min2_int max_two min_two max_three min_three max_four min_four   -- for this text's walks alone
attribute [local go_sem] idxA_72_0 idxA_72_1 fldS_96_0 fldS_96_1 fldS_96_2 fldS_111_0 fldS_111_1 fldS_111_2
set_option linter.unusedVariables false
set_option linter.unusedSimpArgs false

/-! ### laws_markIntA2S: function 16, by hand -/
theorem a2_elem {base g cap n:Nat} {ok:Nat→Prop} {W:World} {xs:List S72} (h:Kd.R k72 72 W base ok (.slice (some ⟨g,0,none⟩) n cap) xs) (i:Int) (h0:0≤i) (h1:i<n):W.cell? ⟨g,i.toNat * 2,none⟩=some (.int .i64 (rd_T72 xs i).f0)∧W.cell? ⟨g,i.toNat * 2 + 1,none⟩=some (.int .i64 (rd_T72 xs i).f1)∧W.frozen? ⟨g,i.toNat * 2,none⟩=false∧W.frozen? ⟨g,i.toNat * 2 + 1,none⟩=false:=by
 obtain ⟨c,hcl,hM,hcc,hfr⟩:=Kd.R_elem h z72 i h0 h1
 obtain rfl:=k72_openM hM
 exact ⟨hcc 0 _ rfl,hcc 1 _ rfl,hfr 0,hfr 1⟩
theorem a2_put0 {base g cap n:Nat} {ok:Nat→Prop} {W:World} {xs:List S72} (h:Kd.R k72 72 W base ok (.slice (some ⟨g,0,none⟩) n cap) xs) (i:Int) (h0:0≤i) (h1:i<n) (v:Int):Kd.R k72 72 (W.setCell ⟨g,i.toNat * 2,none⟩ (.int .i64 v)) base ok (.slice (some ⟨g,0,none⟩) n cap) (xs.set i.toNat ⟨v,(rd_T72 xs i).f1⟩):=by
 obtain ⟨c,hcl,hM,hcc,hfr⟩:=Kd.R_elem h z72 i h0 h1
 obtain rfl:=k72_openM hM
 exact (Kd.R_seg h i h0 h1 (seg:=[.int .i64 v]) (j:=0) hcl hcc (show 1≤2 from by decide) (x':=⟨v,(rd_T72 xs i).f1⟩) (k72_mkM _ _ _ _) (fun _ hk=>hk)).1
theorem a2_put1 {base g cap n:Nat} {ok:Nat→Prop} {W:World} {xs:List S72} (h:Kd.R k72 72 W base ok (.slice (some ⟨g,0,none⟩) n cap) xs) (i:Int) (h0:0≤i) (h1:i<n) (v:Int):Kd.R k72 72 (W.setCell ⟨g,i.toNat * 2 + 1,none⟩ (.int .i64 v)) base ok (.slice (some ⟨g,0,none⟩) n cap) (xs.set i.toNat ⟨(rd_T72 xs i).f0,v⟩):=by
 obtain ⟨c,hcl,hM,hcc,hfr⟩:=Kd.R_elem h z72 i h0 h1
 obtain rfl:=k72_openM hM
 exact (Kd.R_seg h i h0 h1 (seg:=[.int .i64 v]) (j:=1) hcl hcc (show 2≤2 from by decide) (x':=⟨(rd_T72 xs i).f0,v⟩) (k72_mkM _ _ _ _) (fun _ hk=>hk)).1
def laws_markIntA2S.l0:Nat→List S72→Int→Int→Option (Int × List S72)
 | 0,_,_,_=>none
 | k + 1,x0,x1,x5=>if 0≤x5∧x5<(x0.length:Int) then laws_markIntA2S.l0 k (x0.set x5.toNat ⟨x1,wrap64 (x1 + 1)⟩) (wrap64 (wrap64 (x1 + 1) + 1)) (wrap64 (x5 + 1)) else (if x5<(x0.length:Int) then none else some (x1,x0))
def laws_markIntA2S.f (k:Nat) (l0:List S72) (a1:Int):Option (Int × List S72):=if l0.length≤1048576 then laws_markIntA2S.l0 k l0 a1 0 else none
theorem laws_markIntA2S.mono_l:∀ k,(∀ y0 y1 y2,LeO (laws_markIntA2S.l0 k y0 y1 y2) (laws_markIntA2S.l0 (k + 1) y0 y1 y2))
 | 0=>fun _ _ _ r h=>by simp [laws_markIntA2S.l0] at h
 | k + 1=>by
  have ih:=laws_markIntA2S.mono_l k
  intro y0 y1 y2
  unfold laws_markIntA2S.l0
  exact LeO.ite (ih _ _ _) (LeO.refl _)
theorem laws_markIntA2S.mono:∀ a0 a1 k,LeO (laws_markIntA2S.f k a0 a1) (laws_markIntA2S.f (k + 1) a0 a1):=fun a0 a1 k=>LeO.ite (laws_markIntA2S.mono_l k a0 a1 0) (LeO.refl _)
set_option maxHeartbeats 8000000 in
set_option maxRecDepth 100000 in
theorem laws_markIntA2S.calls (k:Nat) (P0_:Nat→Prop) (u9000_:Value) (l0:List S72) (a1:Int) (r1:Int) (r2:List S72) (w0 w:World) (hB:Below w0.heap.size w0 w) (ho0:Kd.R k72 72 w w0.heap.size P0_ u9000_ l0) (h:laws_markIntA2S.f k l0 a1=some (r1,r2)) :
  Calls Try.prog 16 #[u9000_,.int .i64 a1] w fun e w'=>e=.returned (.int .i64 r1)∧Kd.R k72 72 w' w0.heap.size (fun k_=>(P0_ k_∨w.heap.size≤k_)) u9000_ r2∧Below w0.heap.size w0 w'∧Kept w w' (fun k_=>P0_ k_):=by
 obtain ⟨Au,cu,eu⟩:=Kd.R_slice ho0
 subst eu
 have HB:=Aside0.mk hB
 have HS:=Aside0.mk ho0
 have HK:=Aside0.mk (Kept.refl w (fun k_=>P0_ k_))
 unfold laws_markIntA2S.f at h
 split at h
 case isFalse=>cases h
 case isTrue hlen=>
 have HLEN:=Aside0.mk hlen
 have H':=Aside0.mk h
 clear hB ho0 h hlen
 go_enter Try.func16,Try.ntmps16
 go_wp2
 go_loopg [1,5] k (fun kq v1 v5 w'=>∃ (x0:List S72) (x1 x5:Int),v1=.int .i64 x1∧v5=.int .i64 x5∧Aside0 (laws_markIntA2S.l0 kq x0 x1 x5=some (r1,r2))∧Aside0 (kq≤k)∧Aside0 (x0.length=l0.length∧0≤x5∧x5≤(l0.length:Int))∧Aside0 (Kd.R k72 72 w' w0.heap.size P0_ (.slice Au l0.length cu) x0)∧Aside0 (Below w0.heap.size w0 w')∧Aside0 (Kept w w' (fun k_=>P0_ k_)))
 case atStart=>exact ⟨l0,a1,0,rfl,rfl,H',⟨Nat.le_refl _⟩,⟨by omega⟩,HS,HB,HK⟩
 case round=>
  clear HS HB HK H'
  obtain ⟨x0,x1,x5,rfl,rfl,HA,HK1,HL,HS,HB,HK⟩:=hrel
  cases gk with
  | zero=>exact absurd HA.out (by simp [laws_markIntA2S.l0])
  | succ k1=>
  have H:=HA.out
  clear HA
  rw [laws_markIntA2S.l0] at H
  by_cases c:x5<(l0.length:Int)
  ·rw [if_pos (by have:=HL.out;omega)] at H
   have H2:=Aside0.mk H
   clear H
   have cb:decide (x5<(l0.length:Int))=true:=decide_eq_true c
   have p1:0≤x5:=HL.out.2.1
   have HS_:=HS.out
   rw [←HL.out.1] at HS_
   obtain ⟨g,cap,eA,gb,gl,_⟩:=Kd.R_form HS_ (by have:=HL.out;omega)
   clear HS_
   injection eA with eA _ ec
   subst eA
   subst ec
   have GB:=Aside0.mk gb
   have GP:Aside0 (P0_ g):=⟨HS.out.1 _ rfl⟩
   clear gb gl
   have C:=Aside0.mk c
   have q1:=eq_true c
   clear c
   replace p1:=eq_true p1
   have HW:Aside0 (wrap64 (x5 + 1)=x5 + 1):=⟨by unfold wrap64;have:=HL.out;have:=HLEN.out;have:=C.out;omega⟩
   go_wp2
   go_loopg [1,6] 2 (fun kq v1 v6 w'=>∃ (x:Int) (j:Int) (y:List S72),v1=.int .i64 x∧v6=.int .i64 j∧Aside0 (j + (kq:Int)=2∧0≤j)∧Aside0 (y.length=l0.length∧(j=0→y=x0∧x=x1)∧(j=1→y=x0.set x5.toNat ⟨x1,(rd_T72 x0 x5).f1⟩∧x=wrap64 (x1 + 1))∧(j=2→y=x0.set x5.toNat ⟨x1,wrap64 (x1 + 1)⟩∧x=wrap64 (wrap64 (x1 + 1) + 1)))∧Aside0 (Kd.R k72 72 w' w0.heap.size P0_ (.slice (some ⟨g,0,none⟩) l0.length cu) y)∧Aside0 (Below w0.heap.size w0 w')∧Aside0 (Kept w w' (fun k_=>P0_ k_)))
   case atStart=>exact ⟨x1,0,x0,(by first|rfl|(simp;done)),(by first|rfl|(simp;done)),⟨by omega⟩,⟨HL.out.1,fun _=>⟨rfl,rfl⟩,fun h=>absurd h (by decide),fun h=>absurd h (by decide)⟩,HS,HB,HK⟩
   case round=>
    clear HS HB HK
    obtain ⟨x,j,y,rfl,rfl,HJ,HY,HS,HB,HK⟩:=hrel
    have hrd:∀ (a:S72),rd_T72 (x0.set x5.toNat a) x5=a:=fun a=>by unfold rd_T72;simp [show x5.toNat<x0.length by have:=HL.out;have:=C.out;omega]
    have HRD:=Aside0.mk hrd
    clear hrd
    have hc3:j=0∨j=1∨j=2:=by have:=HJ.out;omega
    rcases hc3 with hj|hj|hj
    ·subst hj
     have ey:=HY.out.2.1 rfl
     obtain ⟨hx0,hx1,hf0,hf1⟩:=a2_elem HS.out x5 HL.out.2.1 C.out
     have HP:=Aside0.mk (a2_put0 HS.out x5 HL.out.2.1 C.out x)
     have EY:=Aside0.mk ey
     clear ey
     go_wp2
     go_roundg 1
     case measure=>have:=HJ.out;omega
     case rel=>exact ⟨wrap64 (x + 1),1,y.set x5.toNat ⟨x,(rd_T72 y x5).f1⟩,(by first|rfl|(rw [i64_w])|(simp;done)),(by first|rfl|(simp;done)),⟨by omega⟩,⟨by rw [List.length_set];exact HY.out.1,fun h=>absurd h (by decide),fun _=>by rw [EY.out.1,EY.out.2];exact ⟨rfl,rfl⟩,fun h=>absurd h (by decide)⟩,HP,⟨below_set HB.out GB.out⟩,⟨Kept.setCell HK.out (.inl GP.out) _⟩⟩
    ·subst hj
     have ey:=HY.out.2.2.1 rfl
     obtain ⟨hx0,hx1,hf0,hf1⟩:=a2_elem HS.out x5 HL.out.2.1 C.out
     have HP:=Aside0.mk (a2_put1 HS.out x5 HL.out.2.1 C.out x)
     have EY:=Aside0.mk ey
     clear ey
     go_wp2
     go_roundg 0
     case measure=>have:=HJ.out;omega
     case rel=>exact ⟨wrap64 (x + 1),2,y.set x5.toNat ⟨(rd_T72 y x5).f0,x⟩,(by first|rfl|(rw [i64_w])|(simp;done)),(by first|rfl|(simp;done)),⟨by omega⟩,⟨by rw [List.length_set];exact HY.out.1,fun h=>absurd h (by decide),fun h=>absurd h (by decide),fun _=>by rw [EY.out.1,EY.out.2,HRD.out,List.set_set];exact ⟨rfl,rfl⟩⟩,HP,⟨below_set HB.out GB.out⟩,⟨Kept.setCell HK.out (.inl GP.out) _⟩⟩
    ·subst hj
     have ey:=HY.out.2.2.2 rfl
     have EY:=Aside0.mk ey
     clear ey
     go_wp2
     go_roundg k1
     case measure=>have:=HK1.out;omega
     case rel=>exact ⟨y,x,x5 + 1,(by first|rfl|(simp;done)),(by first|rfl|(rw [i64_w,HW.out])|(simp [HW.out];done)),⟨by have:=H2.out;rw [HW.out] at this;rw [EY.out.1,EY.out.2];exact this⟩,⟨by have:=HK1.out;omega⟩,⟨by have:=HL.out;have:=C.out;have:=HY.out.1;omega⟩,HS,HB,HK⟩
  ·rw [if_neg (by have:=HL.out;omega),if_neg (by have:=HL.out;omega)] at H
   have cb:decide (x5<(l0.length:Int))=false:=decide_eq_false c
   simp only [Option.some.injEq,Prod.mk.injEq] at H
   obtain ⟨rfl,rfl⟩:=H
   clear c
   go_wp2
   go_ret
   exact ⟨rfl,Kd.R_mono HS.out (fun k_ hk=>.inl hk),HB.out,HK.out⟩

end Go.Proofs.Ytbcfmegepkhlpaa.XFnExactLabelPlan
-- minified
