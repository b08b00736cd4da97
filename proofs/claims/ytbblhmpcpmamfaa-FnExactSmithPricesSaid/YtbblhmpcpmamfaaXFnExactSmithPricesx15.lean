-- Written by a program of this session (the kit's print, widened). Proved here: what each function answers, for the arguments that its contract names.
import Derived.Test.YtbblhmpcpmamfaaXFnExactSmithPricesx0
import Derived.Test.YtbblhmpcpmamfaaXFnExactSmithPricesx14
namespace Go.Proofs.Ytbblhmpcpmamfaa.XFnExactSmithPrices
open Go.RowKit Go.Proofs.YtbblhmpcpmamfaaW.PrintWords Go.Proofs.YtbblhmpcpmamfaaW.PrintLast Go.Proofs.YtbblhmpcpmamfaaW.PrintMore
attribute [local go_sem] max2_int min2_int max_two min_two max_three min_three max_four min_four   -- for this text's walks alone
attribute [local go_sem] idxA_77_0 idxA_77_1 fldS_68_0 fldS_68_1 fldS_73_0 fldS_73_1 fldS_73_2
set_option linter.unusedVariables false
set_option linter.unusedSimpArgs false

/-! ### laws_markSetPriceS: function 23, by hand -/
theorem sp_elem {base g cap n:Nat} {ok:Nat→Prop} {W:World} {xs:List S68} (h:Kd.S k68 68 W base ok (.slice (some ⟨g,0,none⟩) n cap) xs) (i:Int) (h0:0≤i) (h1:i<n):∃ A c,W.cell? ⟨g,i.toNat * 2,none⟩=some (.slice A (rd_T68 xs i).f0.length c)∧W.cell? ⟨g,i.toNat * 2 + 1,none⟩=some (.int .i64 (rd_T68 xs i).f1)∧W.frozen? ⟨g,i.toNat * 2,none⟩=false∧W.frozen? ⟨g,i.toNat * 2 + 1,none⟩=false:=by
 obtain ⟨oki,c,hcl,hM,hcc,hfr,_,_⟩:=Kd.S_elem h z68 i h0 h1
 obtain ⟨v0,rfl,hR⟩:=k68_openM hM
 obtain ⟨A,c0,e⟩:=Kd.R_slice hR
 subst e
 exact ⟨A,c0,hcc 0 _ rfl,hcc 1 _ rfl,hfr 0,hfr 1⟩
theorem sp_put1 {base g cap n:Nat} {ok:Nat→Prop} {W:World} {xs:List S68} (h:Kd.S k68 68 W base ok (.slice (some ⟨g,0,none⟩) n cap) xs) (i:Int) (h0:0≤i) (h1:i<n) (v:Int):Kd.S k68 68 (W.setCell ⟨g,i.toNat * 2 + 1,none⟩ (.int .i64 v)) base ok (.slice (some ⟨g,0,none⟩) n cap) (xs.set i.toNat ⟨(rd_T68 xs i).f0,v⟩):=by
 obtain ⟨oki,c,hcl,hM,hcc,hfr,hok,hH⟩:=Kd.S_elem h z68 i h0 h1
 obtain ⟨v0,rfl,hR⟩:=k68_openM hM
 exact (Kd.S_seg (okg:=fun _=>False) (Kd.H_mono hH (fun k hk=>⟨hk,fun h=>h⟩)) h0 h1 (seg:=[.int .i64 v]) (j:=1) (show 2≤2 from by decide) (x':=⟨(rd_T68 xs i).f0,v⟩) (okp:=oki) (k68_mkM _ _ _ _ hR) (fun _ hk=>.inl hk) (fun _ hk=>hk.elim)).1
def laws_markSetPriceS.l0:Nat→List S68→Int→Int→Option (Int × List S68)
 | 0,_,_,_=>none
 | k + 1,x0,x1,x5=>if 0≤x5∧x5<(x0.length:Int) then ((laws_markIntS.f k (rd_T68 x0 x5).f0 x1).bind fun b=>laws_markSetPriceS.l0 k (x0.set x5.toNat ⟨b.2,b.1⟩) (wrap64 (b.1 + 1)) (wrap64 (x5 + 1))) else (if x5<(x0.length:Int) then none else some (x1,x0))
def laws_markSetPriceS.f (k:Nat) (l0:List S68) (a1:Int):Option (Int × List S68):=if l0.length≤1048576 then laws_markSetPriceS.l0 k l0 a1 0 else none
theorem laws_markSetPriceS.mono_l:∀ k,(∀ y0 y1 y2,LeO (laws_markSetPriceS.l0 k y0 y1 y2) (laws_markSetPriceS.l0 (k + 1) y0 y1 y2))
 | 0=>fun _ _ _ r h=>by simp [laws_markSetPriceS.l0] at h
 | k + 1=>by
  have ih:=laws_markSetPriceS.mono_l k
  intro y0 y1 y2
  unfold laws_markSetPriceS.l0
  refine LeO.ite ?_ (LeO.refl _)
  exact LeO.bind (laws_markIntS.mono _ _ _) (fun _=>ih _ _ _)
theorem laws_markSetPriceS.mono:∀ a0 a1 k,LeO (laws_markSetPriceS.f k a0 a1) (laws_markSetPriceS.f (k + 1) a0 a1):=fun a0 a1 k=>LeO.ite (laws_markSetPriceS.mono_l k a0 a1 0) (LeO.refl _)
set_option maxHeartbeats 8000000 in
set_option maxRecDepth 100000 in
theorem laws_markSetPriceS.calls (k:Nat) (P0_:Nat→Prop) (u9000_:Value) (l0:List S68) (a1:Int) (r1:Int) (r2:List S68) (w0 w:World) (hB:Below w0.heap.size w0 w) (ho0:Kd.S k68 68 w w0.heap.size P0_ u9000_ l0) (h:laws_markSetPriceS.f k l0 a1=some (r1,r2)) :
  Calls Try.prog 23 #[u9000_,.int .i64 a1] w fun e w'=>e=.returned (.int .i64 r1)∧Kd.S k68 68 w' w0.heap.size P0_ u9000_ r2∧Below w0.heap.size w0 w'∧Kept w w' (fun k_=>P0_ k_):=by
 obtain ⟨Au,cu,eu⟩:=Kd.S_slice ho0
 subst eu
 have HB:=Aside0.mk hB
 have HS:=Aside0.mk ho0
 have HK:=Aside0.mk (Kept.refl w (fun k_=>P0_ k_))
 unfold laws_markSetPriceS.f at h
 split at h
 case isFalse=>cases h
 case isTrue hlen=>
 have HLEN:=Aside0.mk hlen
 have H':=Aside0.mk h
 clear hB ho0 h hlen
 go_enter Try.func23,Try.ntmps23
 go_wp2
 go_loopg [1,5] k (fun kq v1 v5 w'=>∃ (x0:List S68) (x1 x5:Int),v1=.int .i64 x1∧v5=.int .i64 x5∧Aside0 (laws_markSetPriceS.l0 kq x0 x1 x5=some (r1,r2))∧Aside0 (kq≤k)∧Aside0 (x0.length=l0.length∧0≤x5∧x5≤(l0.length:Int))∧Aside0 (Kd.S k68 68 w' w0.heap.size P0_ (.slice Au l0.length cu) x0)∧Aside0 (Below w0.heap.size w0 w')∧Aside0 (Kept w w' (fun k_=>P0_ k_)))
 case atStart=>exact ⟨l0,a1,0,rfl,rfl,H',⟨Nat.le_refl _⟩,⟨by omega⟩,HS,HB,HK⟩
 case round=>
  clear HS HB HK H'
  obtain ⟨x0,x1,x5,rfl,rfl,HA,HK1,HL,HS,HB,HK⟩:=hrel
  cases gk with
  | zero=>exact absurd HA.out (by simp [laws_markSetPriceS.l0])
  | succ k1=>
  have H:=HA.out
  clear HA
  rw [laws_markSetPriceS.l0] at H
  by_cases c:x5<(l0.length:Int)
  ·rw [if_pos (by have:=HL.out;omega)] at H
   obtain ⟨⟨b1,b2⟩,A1,H⟩:=Option.bind_eq_some_iff.1 H
   have A1':=Aside0.mk A1
   have H2:=Aside0.mk H
   clear A1 H
   have cb:decide (x5<(l0.length:Int))=true:=decide_eq_true c
   have p1:0≤x5:=HL.out.2.1
   have HS_:=HS.out
   rw [←HL.out.1] at HS_
   obtain ⟨g,cap,eA,gb,gl,_⟩:=Kd.S_form HS_ (by have:=HL.out;omega)
   clear HS_
   injection eA with eA _ ec
   subst eA
   subst ec
   have GB:=Aside0.mk gb
   have GP:Aside0 (P0_ g):=⟨(Kd.S_R HS.out).1 _ rfl⟩
   clear gb gl
   obtain ⟨oki,ce,hcl,hM,hcc,hok,hbk⟩:=Kd.S_borrow HS.out z68 x5 p1 c
   obtain ⟨ve,rfl,ge⟩:=k68_openM hM
   obtain ⟨Ai,ci,ei⟩:=Kd.R_slice ge
   subst ei
   have hx:wr.cell? ⟨g,x5.toNat * 2,none⟩=some (.slice Ai (x0.getD x5.toNat z68).f0.length ci):=by have:=hcc 0 _ rfl;rw [add_at,Nat.zero_add] at this;exact this
   replace ge:=(show Kd.R (Kd.int .i64) 3 _ _ _ _ (rd_T68 x0 x5).f0 from ge)
   replace hx:=(show wr.cell? ⟨g,x5.toNat * 2,none⟩=some (Value.slice Ai (rd_T68 x0 x5).f0.length ci) from hx)
   have GE:=Aside0.mk ge
   have HOK:=Aside0.mk hok
   have HBK:=Aside0.mk (@hbk)
   have HW:Aside0 (wrap64 (x5 + 1)=x5 + 1):=⟨by unfold wrap64;have:=HL.out;have:=HLEN.out;omega⟩
   have C:=Aside0.mk c
   have q1:=eq_true c
   clear hM hcl hcc hok hbk ge c
   replace p1:=eq_true p1
   go_wp2_with (fail)
   refine (laws_markIntS.calls k1 (fun k_=>some k_=(Value.slice Ai (rd_T68 x0 x5).f0.length ci).ownBlock) _ (rd_T68 x0 x5).f0 x1 b1 b2 w0 _ HB.out (Kd.R_tight rfl GE.out) A1'.out).mono ?_
   rintro e w7 ⟨rfl,hR,hB7,hK7⟩
   dsimp only
   have gr:World.grownBy wr w7 (Value.slice Ai (rd_T68 x0 x5).f0.length ci).ownBlock:=⟨hB7.os.trans HB.out.os.symm,hB7.tape.trans HB.out.tape.symm,hB7.output.trans HB.out.output.symm,hK7.1,fun i hi hne=>hK7.2 i hi hne⟩
   have hl2:b2.length=(rd_T68 x0 x5).f0.length:=by obtain ⟨A_,c_,e_⟩:=Kd.R_slice hR;injection e_ with _ e_ _;exact e_.symm
   have HS7:=Aside0.mk (HBK.out gr (fun k_ e_=>GE.out.1 k_ e_) (x':=⟨b2,(rd_T68 x0 x5).f1⟩) (k68_mkM _ _ _ _ (Kd.R_mono (Kd.R_tight rfl hR) (fun k_ e_=>GE.out.1 k_ e_.symm))))
   have HB7:=Aside0.mk hB7
   have HK7:=Aside0.mk (Kept.then_ HK.out hK7 (fun k_ e_=>.inl (HOK.out k_ (GE.out.1 k_ e_.symm)).1))
   obtain ⟨A_,c_,y0,y1,f0_,f1_⟩:=sp_elem HS7.out x5 HL.out.2.1 C.out
   have HP:=Aside0.mk (sp_put1 HS7.out x5 HL.out.2.1 C.out b1)
   clear hR hB7 hK7 gr HS HB HK hx
   have hrd:rd_T68 (x0.set x5.toNat ⟨b2,(rd_T68 x0 x5).f1⟩) x5=⟨b2,(rd_T68 x0 x5).f1⟩:=by unfold rd_T68;simp [show x5.toNat<x0.length by have:=HL.out;have:=C.out;omega]
   have HRD:=Aside0.mk hrd
   clear hrd
   go_wp2
   go_roundg k1
   case measure=>have:=HK1.out;omega
   case rel=>exact ⟨x0.set x5.toNat ⟨b2,b1⟩,wrap64 (b1 + 1),x5 + 1,(by first|rfl|(simp;done)),(by first|rfl|(rw [i64_w,HW.out])|(simp [HW.out];done)),⟨by have:=H2.out;rwa [HW.out] at this⟩,⟨by have:=HK1.out;omega⟩,⟨by have:=HL.out;have:=C.out;simp;omega⟩,⟨by have:=HP.out;rw [HRD.out,List.set_set] at this;exact this⟩,⟨below_set HB7.out GB.out⟩,⟨Kept.setCell HK7.out (.inl GP.out) _⟩⟩
  ·rw [if_neg (by have:=HL.out;omega),if_neg (by have:=HL.out;omega)] at H
   have cb:decide (x5<(l0.length:Int))=false:=decide_eq_false c
   simp only [Option.some.injEq,Prod.mk.injEq] at H
   obtain ⟨rfl,rfl⟩:=H
   clear c
   go_wp2
   go_ret
   exact ⟨rfl,HS.out,HB.out,HK.out⟩

end Go.Proofs.Ytbblhmpcpmamfaa.XFnExactSmithPrices
-- minified
