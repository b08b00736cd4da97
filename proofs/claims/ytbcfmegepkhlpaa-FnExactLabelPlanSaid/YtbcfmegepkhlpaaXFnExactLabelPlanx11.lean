-- Written by a program of this session (the kit's print, widened). Proved here: what each function answers, for the arguments that its contract names.
import Derived.Test.YtbcfmegepkhlpaaXFnExactLabelPlanx0
namespace Go.Proofs.Ytbcfmegepkhlpaa.XFnExactLabelPlan
open Go.RowKit Go.Proofs.YtbcfmegepkhlpaaW.PrintWords Go.Proofs.YtbcfmegepkhlpaaW.PrintLast Go.Proofs.YtbcfmegepkhlpaaW.PrintMore
attribute [local go_sem] max2_int min2_int max_two min_two max_three min_three max_four min_four   -- for this text's walks alone
attribute [local go_sem] idxA_72_0 idxA_72_1 fldS_96_0 fldS_96_1 fldS_96_2 fldS_111_0 fldS_111_1 fldS_111_2
set_option linter.unusedVariables false
set_option linter.unusedSimpArgs false

/-! ### spec_l4Through: function 166 -/
def spec_l4Through.l0:Nat→List (List Bool)→Int→Int→Int→Option (Bool)
 | 0,_,_,_,_=>none
 | k + 1,x0,x1,x2,x7=>if x7<(x0.length:Int) then (if 0≤x1 then (if x1<(x0.length:Int) then (if 0≤x7 then (if x7<((rd_L3 x0 x1).length:Int) then (if rdOf false (rd_L3 x0 x1) x7=true then (if 0≤x2 then (if x2<((rd_L3 x0 x7).length:Int) then (if rdOf false (rd_L3 x0 x7) x2=true then (some true) else (spec_l4Through.l0 k x0 x1 x2 (wrap64 (x7 + 1)))) else (none)) else (none)) else (spec_l4Through.l0 k x0 x1 x2 (wrap64 (x7 + 1)))) else (none)) else (none)) else (none)) else (none)) else (some false)
def spec_l4Through.f (k:Nat) (l0:List (List Bool)) (a1:Int) (a2:Int):Option (Bool):=spec_l4Through.l0 k l0 a1 a2 0
theorem spec_l4Through.mono_l:∀ k,(∀ y0 y1 y2 y3,LeO (spec_l4Through.l0 k y0 y1 y2 y3) (spec_l4Through.l0 (k + 1) y0 y1 y2 y3))
 | 0=>fun _ _ _ _ r h=>by simp [spec_l4Through.l0] at h
 | k + 1=>by
  have ih0:=spec_l4Through.mono_l k
  ·intro y0 y1 y2 y3
   unfold spec_l4Through.l0
   repeat' first
   | (with_reducible exact ih0 _ _ _ _)
   | (with_reducible exact LeO.refl _)
   | (with_reducible exact LeO.none _)
   | (with_reducible refine LeO.ite ?_ ?_)
   | (with_reducible refine LeO.bind ?_ (fun _=>?_))
   | exact ih0 _ _ _ _
   | exact LeO.none _
   | refine LeO.ite ?_ ?_
   | refine LeO.bind ?_ (fun _=>?_)
theorem spec_l4Through.mono:∀ a0 a1 a2 k,LeO (spec_l4Through.f k a0 a1 a2) (spec_l4Through.f (k + 1) a0 a1 a2):=by
 intro a0 a1 a2 k
 have ih0:=spec_l4Through.mono_l k
 unfold spec_l4Through.f
 repeat' first
   | (with_reducible exact ih0 _ _ _ _)
   | (with_reducible exact LeO.refl _)
   | (with_reducible exact LeO.none _)
   | (with_reducible refine LeO.ite ?_ ?_)
   | (with_reducible refine LeO.bind ?_ (fun _=>?_))
   | exact ih0 _ _ _ _
   | exact LeO.none _
   | refine LeO.ite ?_ ?_
   | refine LeO.bind ?_ (fun _=>?_)
set_option maxHeartbeats 8000000 in
set_option maxRecDepth 100000 in
theorem spec_l4Through.calls (k:Nat) (A0:Option Addr) (c0:Nat) (l0:List (List Bool)) (a1:Int) (a2:Int) (r:Bool) (w:World) (hr0:Kd.C (Kd.slice 4 Kd.bool) w A0 l0.length l0) (hc0:l0.length≤c0) (h:spec_l4Through.f k l0 a1 a2=some r) :
  Calls Try.prog 166 #[.slice A0 l0.length c0,.int .i64 a1,.int .i64 a2] w fun e w'=>e=.returned (.bool r)∧Drawn0 w w':=by
 have HR0:=Aside0.mk hr0
 have HC0:=Aside0.mk hc0
 clear hr0 hc0
 have H:(spec_l4Through.l0 k l0 a1 a2 0)=some r:=h
 clear h
 have H':=Aside0.mk H
 clear H
 go_enter Try.func166,Try.ntmps166
 go_wp2
 go_loopg [7] k (fun kq v7 w'=>∃ (x7_1:Int),v7=.int .i64 x7_1∧Aside0 (spec_l4Through.l0 kq l0 a1 a2 x7_1=some r)∧Aside0 (kq≤k)∧Drawn0 w w')
 case atStart=>exact ⟨(0),zo,H',⟨Nat.le_refl _⟩,by repeat (first|exact Drawn0.refl _|apply Drawn0.step)⟩
 case round=>
  clear H'
  (try clear c1);(try clear p2)
  obtain ⟨x7_1,rfl,HA,HK1,⟨m1,rfl⟩⟩:=hrel
  cases gk with
  | zero=>exact absurd HA.out (by simp [spec_l4Through.l0])
  | succ k1=>
   have H:=HA.out
   clear HA
   simp only [spec_l4Through.l0] at H
   by_cases c4:x7_1<(l0.length:Int)
   ·rw [if_pos c4] at H
    have c4b0:decide (x7_1<(l0.length:Int))=true:=decide_eq_true c4
    clear c4
    by_cases c5:0≤a1
    ·rw [if_pos c5] at H
     have c5b0:decide (0≤a1)=true:=decide_eq_true c5
     clear c5
     by_cases c6:a1<(l0.length:Int)
     ·rw [if_pos c6] at H
      have c6b0:decide (a1<(l0.length:Int))=true:=decide_eq_true c6
      clear c6
      by_cases c7:0≤x7_1
      ·rw [if_pos c7] at H
       have c7b0:decide (0≤x7_1)=true:=decide_eq_true c7
       clear c7
       by_cases c8:x7_1<((rd_L3 l0 a1).length:Int)
       ·rw [if_pos c8] at H
        have c8b0:decide (x7_1<((rd_L3 l0 a1).length:Int))=true:=decide_eq_true c8
        clear c8
        obtain ⟨bq9,hbq9⟩:∃ b_:Bool,b_=(rdOf false (rd_L3 l0 a1) x7_1):=⟨_,rfl⟩
        replace H:(if bq9=true then (if 0≤a2 then (if a2<((rd_L3 l0 x7_1).length:Int) then (if rdOf false (rd_L3 l0 x7_1) a2=true then (some true) else (spec_l4Through.l0 k1 l0 a1 a2 (wrap64 (x7_1 + 1)))) else (none)) else (none)) else (spec_l4Through.l0 k1 l0 a1 a2 (wrap64 (x7_1 + 1))))=some r:=by rw [←hbq9] at H;exact H
        have Nbq9:=Aside0.mk hbq9
        clear hbq9
        by_cases c10:bq9=true
        ·subst c10
         have H1:(if 0≤a2 then (if a2<((rd_L3 l0 x7_1).length:Int) then (if rdOf false (rd_L3 l0 x7_1) a2=true then (some true) else (spec_l4Through.l0 k1 l0 a1 a2 (wrap64 (x7_1 + 1)))) else (none)) else (none))=some r:=by rw [if_pos rfl] at H;exact H
         clear H
         have H:=H1
         clear H1
         by_cases c11:0≤a2
         ·rw [if_pos c11] at H
          have c11b0:decide (0≤a2)=true:=decide_eq_true c11
          clear c11
          by_cases c12:a2<((rd_L3 l0 x7_1).length:Int)
          ·rw [if_pos c12] at H
           have c12b0:decide (a2<((rd_L3 l0 x7_1).length:Int))=true:=decide_eq_true c12
           clear c12
           obtain ⟨bq13,hbq13⟩:∃ b_:Bool,b_=(rdOf false (rd_L3 l0 x7_1) a2):=⟨_,rfl⟩
           replace H:(if bq13=true then (some true) else (spec_l4Through.l0 k1 l0 a1 a2 (wrap64 (x7_1 + 1))))=some r:=by rw [←hbq13] at H;exact H
           have Nbq13:=Aside0.mk hbq13
           clear hbq13
           by_cases c14:bq13=true
           ·subst c14
            have H1:(some true)=some r:=by rw [if_pos rfl] at H;exact H
            clear H
            have H:=H1
            clear H1
            obtain rfl:=Option.some.inj H
            have p242:0≤(a1:Int):=of_decide_eq_true za
            have q242:a1<(l0.length:Int):=of_decide_eq_true za
            obtain ⟨ad242,A242_0,c242_0,e242,hx242_0,hl242_0,hi242_0⟩:=at_L3 HR0.out a1 p242 q242
            cases e242
            have HR242_0:=Aside0.mk hi242_0
            have HC242_0:=Aside0.mk hl242_0
            clear hi242_0 hl242_0
            replace p242:=eq_true p242
            replace q242:=eq_true q242
            have p243:0≤(x7_1:Int):=of_decide_eq_true za
            have q243:x7_1<((rd_L3 l0 a1).length:Int):=of_decide_eq_true za
            obtain ⟨ad243,e243,hx243_0⟩:=Kd.at_bool HR242_0.out x7_1 p243 q243
            (try rw [←Nbq9.out] at hx243_0)
            (try rw [←Nbq13.out] at hx243_0)
            cases e243
            replace p243:=eq_true p243
            replace q243:=eq_true q243
            have p244:0≤(x7_1:Int):=of_decide_eq_true za
            have q244:x7_1<(l0.length:Int):=of_decide_eq_true za
            obtain ⟨ad244,A244_0,c244_0,e244,hx244_0,hl244_0,hi244_0⟩:=at_L3 HR0.out x7_1 p244 q244
            obtain rfl:ad242=ad244:=(by injection e244)
            have HR244_0:=Aside0.mk hi244_0
            have HC244_0:=Aside0.mk hl244_0
            clear hi244_0 hl244_0
            replace p244:=eq_true p244
            replace q244:=eq_true q244
            have p245:0≤(a2:Int):=of_decide_eq_true za
            have q245:a2<((rd_L3 l0 x7_1).length:Int):=of_decide_eq_true za
            obtain ⟨ad245,e245,hx245_0⟩:=Kd.at_bool HR244_0.out a2 p245 q245
            (try rw [←Nbq9.out] at hx245_0)
            (try rw [←Nbq13.out] at hx245_0)
            cases e245
            replace p245:=eq_true p245
            replace q245:=eq_true q245
            go_wp2
            go_ret
            exact ⟨by first|rfl|(simp;done)|(simp [*];done),by repeat (first|exact Drawn0.refl _|apply Drawn0.step)⟩
           ·replace c14:=Bool.eq_false_iff.mpr c14
            subst c14
            have H1:(spec_l4Through.l0 k1 l0 a1 a2 (wrap64 (x7_1 + 1)))=some r:=by rw [if_neg (show ¬ (false=true) by decide)] at H;exact H
            clear H
            have H:=H1
            clear H1
            have H':=Aside0.mk H
            clear H
            have p242:0≤(a1:Int):=of_decide_eq_true za
            have q242:a1<(l0.length:Int):=of_decide_eq_true za
            obtain ⟨ad242,A242_0,c242_0,e242,hx242_0,hl242_0,hi242_0⟩:=at_L3 HR0.out a1 p242 q242
            cases e242
            have HR242_0:=Aside0.mk hi242_0
            have HC242_0:=Aside0.mk hl242_0
            clear hi242_0 hl242_0
            replace p242:=eq_true p242
            replace q242:=eq_true q242
            have p243:0≤(x7_1:Int):=of_decide_eq_true za
            have q243:x7_1<((rd_L3 l0 a1).length:Int):=of_decide_eq_true za
            obtain ⟨ad243,e243,hx243_0⟩:=Kd.at_bool HR242_0.out x7_1 p243 q243
            (try rw [←Nbq9.out] at hx243_0)
            (try rw [←Nbq13.out] at hx243_0)
            cases e243
            replace p243:=eq_true p243
            replace q243:=eq_true q243
            have p244:0≤(x7_1:Int):=of_decide_eq_true za
            have q244:x7_1<(l0.length:Int):=of_decide_eq_true za
            obtain ⟨ad244,A244_0,c244_0,e244,hx244_0,hl244_0,hi244_0⟩:=at_L3 HR0.out x7_1 p244 q244
            obtain rfl:ad242=ad244:=(by injection e244)
            have HR244_0:=Aside0.mk hi244_0
            have HC244_0:=Aside0.mk hl244_0
            clear hi244_0 hl244_0
            replace p244:=eq_true p244
            replace q244:=eq_true q244
            have p245:0≤(a2:Int):=of_decide_eq_true za
            have q245:a2<((rd_L3 l0 x7_1).length:Int):=of_decide_eq_true za
            obtain ⟨ad245,e245,hx245_0⟩:=Kd.at_bool HR244_0.out a2 p245 q245
            (try rw [←Nbq9.out] at hx245_0)
            (try rw [←Nbq13.out] at hx245_0)
            cases e245
            replace p245:=eq_true p245
            replace q245:=eq_true q245
            go_wp2
            go_roundg k1
            case measure=>have:=HK1.out;omega
            case rel=>exact ⟨(wrap64 (x7_1 + 1)),zo,H',⟨by have:=HK1.out;omega⟩,by repeat (first|exact Drawn0.refl _|apply Drawn0.step)⟩
          ·rw [if_neg c12] at H
           exact absurd H (by simp)
         ·rw [if_neg c11] at H
          exact absurd H (by simp)
        ·replace c10:=Bool.eq_false_iff.mpr c10
         subst c10
         have H1:(spec_l4Through.l0 k1 l0 a1 a2 (wrap64 (x7_1 + 1)))=some r:=by rw [if_neg (show ¬ (false=true) by decide)] at H;exact H
         clear H
         have H:=H1
         clear H1
         have H':=Aside0.mk H
         clear H
         have p242:0≤(a1:Int):=of_decide_eq_true za
         have q242:a1<(l0.length:Int):=of_decide_eq_true za
         obtain ⟨ad242,A242_0,c242_0,e242,hx242_0,hl242_0,hi242_0⟩:=at_L3 HR0.out a1 p242 q242
         cases e242
         have HR242_0:=Aside0.mk hi242_0
         have HC242_0:=Aside0.mk hl242_0
         clear hi242_0 hl242_0
         replace p242:=eq_true p242
         replace q242:=eq_true q242
         have p243:0≤(x7_1:Int):=of_decide_eq_true za
         have q243:x7_1<((rd_L3 l0 a1).length:Int):=of_decide_eq_true za
         obtain ⟨ad243,e243,hx243_0⟩:=Kd.at_bool HR242_0.out x7_1 p243 q243
         (try rw [←Nbq9.out] at hx243_0)
         cases e243
         replace p243:=eq_true p243
         replace q243:=eq_true q243
         go_wp2
         go_roundg k1
         case measure=>have:=HK1.out;omega
         case rel=>exact ⟨(wrap64 (x7_1 + 1)),zo,H',⟨by have:=HK1.out;omega⟩,by repeat (first|exact Drawn0.refl _|apply Drawn0.step)⟩
       ·rw [if_neg c8] at H
        exact absurd H (by simp)
      ·rw [if_neg c7] at H
       exact absurd H (by simp)
     ·rw [if_neg c6] at H
      exact absurd H (by simp)
    ·rw [if_neg c5] at H
     exact absurd H (by simp)
   ·rw [if_neg c4] at H
    have c4b0:decide (x7_1<(l0.length:Int))=false:=decide_eq_false c4
    clear c4
    obtain rfl:=Option.some.inj H
    go_wp2
    go_ret
    exact ⟨by first|rfl|(simp;done)|(simp [*];done),by repeat (first|exact Drawn0.refl _|apply Drawn0.step)⟩

/-! ### spec_l7Followers: function 157 -/
def spec_l7Followers.l0:Nat→List (List Bool)→Int→List Int→Int→Option (List Int)
 | 0,_,_,_,_=>none
 | k + 1,x0,x1,x5,x6=>if x6<(x0.length:Int) then (if 0≤x1 then (if x1<(x0.length:Int) then (if 0≤x6 then (if x6<((rd_L3 x0 x1).length:Int) then (if rdOf false (rd_L3 x0 x1) x6=true then ((spec_l4Through.f k x0 x1 x6).bind fun t251=>(if t251=true then (spec_l7Followers.l0 k x0 x1 x5 (wrap64 (x6 + 1))) else (if x5.length<17592186044416 then (spec_l7Followers.l0 k x0 x1 (x5++[x6]) (wrap64 (x6 + 1))) else (none)))) else (spec_l7Followers.l0 k x0 x1 x5 (wrap64 (x6 + 1)))) else (none)) else (none)) else (none)) else (none)) else (some x5)
def spec_l7Followers.f (k:Nat) (l0:List (List Bool)) (a1:Int):Option (List Int):=spec_l7Followers.l0 k l0 a1 (([]:List Int)) 0
theorem spec_l7Followers.mono_l:∀ k,(∀ y0 y1 y2 y3,LeO (spec_l7Followers.l0 k y0 y1 y2 y3) (spec_l7Followers.l0 (k + 1) y0 y1 y2 y3))
 | 0=>fun _ _ _ _ r h=>by simp [spec_l7Followers.l0] at h
 | k + 1=>by
  have ih0:=spec_l7Followers.mono_l k
  ·intro y0 y1 y2 y3
   unfold spec_l7Followers.l0
   repeat' first
   | (with_reducible exact ih0 _ _ _ _)
   | (with_reducible exact spec_l4Through.mono _ _ _ _)
   | (with_reducible exact LeO.refl _)
   | (with_reducible exact LeO.none _)
   | (with_reducible refine LeO.ite ?_ ?_)
   | (with_reducible refine LeO.bind ?_ (fun _=>?_))
   | exact ih0 _ _ _ _
   | exact spec_l4Through.mono _ _ _ _
   | exact LeO.none _
   | refine LeO.ite ?_ ?_
   | refine LeO.bind ?_ (fun _=>?_)
theorem spec_l7Followers.mono:∀ a0 a1 k,LeO (spec_l7Followers.f k a0 a1) (spec_l7Followers.f (k + 1) a0 a1):=by
 intro a0 a1 k
 have ih0:=spec_l7Followers.mono_l k
 unfold spec_l7Followers.f
 repeat' first
   | (with_reducible exact ih0 _ _ _ _)
   | (with_reducible exact spec_l4Through.mono _ _ _ _)
   | (with_reducible exact LeO.refl _)
   | (with_reducible exact LeO.none _)
   | (with_reducible refine LeO.ite ?_ ?_)
   | (with_reducible refine LeO.bind ?_ (fun _=>?_))
   | exact ih0 _ _ _ _
   | exact spec_l4Through.mono _ _ _ _
   | exact LeO.none _
   | refine LeO.ite ?_ ?_
   | refine LeO.bind ?_ (fun _=>?_)
set_option maxHeartbeats 8000000 in
set_option maxRecDepth 100000 in
theorem spec_l7Followers.calls (k:Nat) (A0:Option Addr) (c0:Nat) (l0:List (List Bool)) (a1:Int) (r:List Int) (w:World) (hr0:Kd.C (Kd.slice 4 Kd.bool) w A0 l0.length l0) (hc0:l0.length≤c0) (h:spec_l7Followers.f k l0 a1=some r) :
  Calls Try.prog 157 #[.slice A0 l0.length c0,.int .i64 a1] w fun e w'=>∃ v0_:Value,e=.returned (v0_)∧Kd.R (Kd.int .i64) 3 w' w.heap.size (fun _=>True) v0_ r∧Below w.heap.size w w':=by
 have HR0:=Aside0.mk hr0
 have HC0:=Aside0.mk hc0
 clear hr0 hc0
 have HB:=Aside0.mk (Below.refl w.heap.size w)
 have H:(spec_l7Followers.l0 k l0 a1 (([]:List Int)) 0)=some r:=h
 clear h
 obtain ⟨y246,hy246⟩:∃ y_:List Int,y_=(([]:List Int)):=⟨_,rfl⟩
 replace H:(spec_l7Followers.l0 k l0 a1 y246 0)=some r:=by first|(rw [hy246];with_reducible exact H)|(have H2_:=(Option.bind_some _ _).symm.trans H;rw [hy246];with_reducible exact H2_)|(have H2_:=(Option.bind_some _ _).symm.trans H;with_reducible exact H2_)|with_reducible exact H|(rw [hy246];exact H)|exact H
 have Ny246:=Aside0.mk hy246
 clear hy246
 have H':=Aside0.mk H
 clear H
 go_enter Try.func157,Try.ntmps157
 go_wp2_with (first|((with_reducible refine gate_dst (N:=7) rfl ?_);refine Kd.R_lit (Kd.int .i64) _ 3 ?hg (N:=7) ?hd (xs:=([]:List Int)) (inner:=[]) (ok:=fun _=>True) (okp:=fun _=>True) ?hr ?hp (fun _ hk=>hk) trivial (Below.refl _ _) (Nat.le_refl _) (by simp) ?_;(case hd=>rfl);(case hg=>rfl);(case hr=>first|(go_simp;done)|(go_simp;rfl));(case hp=>exact (Reps.none _ _));intro v247 w3 ho4 hb hg_ hnew_;clear hg_ hnew_;(first|rw [←Ny246.out] at ho4|(simp only [Int.reduceToNat] at ho4;rw [←Ny246.out] at ho4));have HO248:=Aside0.mk (Kd.R_lower ho4 (below_size zb));replace HB:=Aside0.mk (below_step zb hb);clear hb ho4))
 go_loopg [5,6] k (fun kq v5 v6 w'=>∃ (x5_1:List Int) (x6_1:Int),v6=.int .i64 x6_1∧Aside0 (spec_l7Followers.l0 kq l0 a1 x5_1 x6_1=some r)∧Aside0 (kq≤k)∧Aside0 (Kd.R (Kd.int .i64) 3 w' w.heap.size (fun _=>True) v5 x5_1)∧Aside0 (Below w.heap.size w w'))
 case atStart=>exact ⟨(y246),(0),zo,H',⟨Nat.le_refl _⟩,⟨zR HO248.out⟩,⟨zb⟩⟩
 case round=>
  clear H'
  (try clear c1);(try clear p2)
  obtain ⟨x5_1,x6_1,rfl,HA,HK1,HO_5,HB⟩:=hrel
  cases gk with
  | zero=>exact absurd HA.out (by simp [spec_l7Followers.l0])
  | succ k1=>
   have H:=HA.out
   clear HA
   simp only [spec_l7Followers.l0] at H
   by_cases c5:x6_1<(l0.length:Int)
   ·rw [if_pos c5] at H
    have c5b0:decide (x6_1<(l0.length:Int))=true:=decide_eq_true c5
    clear c5
    by_cases c6:0≤a1
    ·rw [if_pos c6] at H
     have c6b0:decide (0≤a1)=true:=decide_eq_true c6
     clear c6
     by_cases c7:a1<(l0.length:Int)
     ·rw [if_pos c7] at H
      have c7b0:decide (a1<(l0.length:Int))=true:=decide_eq_true c7
      clear c7
      by_cases c8:0≤x6_1
      ·rw [if_pos c8] at H
       have c8b0:decide (0≤x6_1)=true:=decide_eq_true c8
       clear c8
       by_cases c9:x6_1<((rd_L3 l0 a1).length:Int)
       ·rw [if_pos c9] at H
        have c9b0:decide (x6_1<((rd_L3 l0 a1).length:Int))=true:=decide_eq_true c9
        clear c9
        obtain ⟨bq10,hbq10⟩:∃ b_:Bool,b_=(rdOf false (rd_L3 l0 a1) x6_1):=⟨_,rfl⟩
        replace H:(if bq10=true then ((spec_l4Through.f k1 l0 a1 x6_1).bind fun t251=>(if t251=true then (spec_l7Followers.l0 k1 l0 a1 x5_1 (wrap64 (x6_1 + 1))) else (if x5_1.length<17592186044416 then (spec_l7Followers.l0 k1 l0 a1 (x5_1++[x6_1]) (wrap64 (x6_1 + 1))) else (none)))) else (spec_l7Followers.l0 k1 l0 a1 x5_1 (wrap64 (x6_1 + 1))))=some r:=by rw [←hbq10] at H;exact H
        have Nbq10:=Aside0.mk hbq10
        clear hbq10
        by_cases c11:bq10=true
        ·subst c11
         have H1:((spec_l4Through.f k1 l0 a1 x6_1).bind fun t251=>(if t251=true then (spec_l7Followers.l0 k1 l0 a1 x5_1 (wrap64 (x6_1 + 1))) else (if x5_1.length<17592186044416 then (spec_l7Followers.l0 k1 l0 a1 (x5_1++[x6_1]) (wrap64 (x6_1 + 1))) else (none))))=some r:=by rw [if_pos rfl] at H;exact H
         clear H
         have H:=H1
         clear H1
         replace H:=Option.bind_eq_some_iff.mp H
         obtain ⟨t251,A120,H⟩:=H
         replace H:(if t251=true then (spec_l7Followers.l0 k1 l0 a1 x5_1 (wrap64 (x6_1 + 1))) else (if x5_1.length<17592186044416 then (spec_l7Followers.l0 k1 l0 a1 (x5_1++[x6_1]) (wrap64 (x6_1 + 1))) else (none)))=some r:=H
         have A12:=Aside0.mk A120
         clear A120
         by_cases c13:t251=true
         ·subst c13
          have H1:(spec_l7Followers.l0 k1 l0 a1 x5_1 (wrap64 (x6_1 + 1)))=some r:=by rw [if_pos rfl] at H;exact H
          clear H
          have H:=H1
          clear H1
          have H':=Aside0.mk H
          clear H
          have p249:0≤(a1:Int):=of_decide_eq_true za
          have q249:a1<(l0.length:Int):=of_decide_eq_true za
          obtain ⟨ad249,A249_0,c249_0,e249,hx249_0,hl249_0,hi249_0⟩:=at_L3 HR0.out a1 p249 q249
          cases e249
          replace hx249_0:=(HB.out.cell (World.block_lt_of_cell? w _ hx249_0)).trans hx249_0
          have HR249_0:=Aside0.mk hi249_0
          have HC249_0:=Aside0.mk hl249_0
          clear hi249_0 hl249_0
          replace p249:=eq_true p249
          replace q249:=eq_true q249
          have p250:0≤(x6_1:Int):=of_decide_eq_true za
          have q250:x6_1<((rd_L3 l0 a1).length:Int):=of_decide_eq_true za
          obtain ⟨ad250,e250,hx250_0⟩:=Kd.at_bool HR249_0.out x6_1 p250 q250
          (try rw [←Nbq10.out] at hx250_0)
          cases e250
          replace hx250_0:=(HB.out.cell (World.block_lt_of_cell? w _ hx250_0)).trans hx250_0
          replace p250:=eq_true p250
          replace q250:=eq_true q250
          go_wp2_with (first|(go_at_call 166;(with_reducible refine (spec_l4Through.calls k1 _ _ l0 a1 x6_1 true _ ?side1 ?side2 A12.out).mono ?_);(case side1=>exact zC (Kd.C_below HR0.out HB.out));(case side2=>exact HC0.out);rintro e w' ⟨rfl,⟨nd,rfl⟩⟩))
          go_roundg k1
          case measure=>have:=HK1.out;omega
          case rel=>exact ⟨(x5_1),(wrap64 (x6_1 + 1)),zo,H',⟨by have:=HK1.out;omega⟩,⟨zR HO_5.out⟩,⟨zb⟩⟩
         ·replace c13:=Bool.eq_false_iff.mpr c13
          subst c13
          have H1:(if x5_1.length<17592186044416 then (spec_l7Followers.l0 k1 l0 a1 (x5_1++[x6_1]) (wrap64 (x6_1 + 1))) else (none))=some r:=by rw [if_neg (show ¬ (false=true) by decide)] at H;exact H
          clear H
          have H:=H1
          clear H1
          by_cases c14:x5_1.length<17592186044416
          ·rw [if_pos c14] at H
           have LMc14:=Aside0.mk c14
           clear c14
           obtain ⟨y252,hy252⟩:∃ y_:List Int,y_=(x5_1++[x6_1]):=⟨_,rfl⟩
           replace H:(spec_l7Followers.l0 k1 l0 a1 y252 (wrap64 (x6_1 + 1)))=some r:=by first|(rw [hy252];with_reducible exact H)|(have H2_:=(Option.bind_some _ _).symm.trans H;rw [hy252];with_reducible exact H2_)|(have H2_:=(Option.bind_some _ _).symm.trans H;with_reducible exact H2_)|with_reducible exact H|(rw [hy252];exact H)|exact H
           have Ny252:=Aside0.mk hy252
           clear hy252
           have H':=Aside0.mk H
           clear H
           have p249:0≤(a1:Int):=of_decide_eq_true za
           have q249:a1<(l0.length:Int):=of_decide_eq_true za
           obtain ⟨ad249,A249_0,c249_0,e249,hx249_0,hl249_0,hi249_0⟩:=at_L3 HR0.out a1 p249 q249
           cases e249
           replace hx249_0:=(HB.out.cell (World.block_lt_of_cell? w _ hx249_0)).trans hx249_0
           have HR249_0:=Aside0.mk hi249_0
           have HC249_0:=Aside0.mk hl249_0
           clear hi249_0 hl249_0
           replace p249:=eq_true p249
           replace q249:=eq_true q249
           have p250:0≤(x6_1:Int):=of_decide_eq_true za
           have q250:x6_1<((rd_L3 l0 a1).length:Int):=of_decide_eq_true za
           obtain ⟨ad250,e250,hx250_0⟩:=Kd.at_bool HR249_0.out x6_1 p250 q250
           (try rw [←Nbq10.out] at hx250_0)
           cases e250
           replace hx250_0:=(HB.out.cell (World.block_lt_of_cell? w _ hx250_0)).trans hx250_0
           replace p250:=eq_true p250
           replace q250:=eq_true q250
           go_wp2_with (first|(go_at_call 166;(with_reducible refine (spec_l4Through.calls k1 _ _ l0 a1 x6_1 false _ ?side1 ?side2 A12.out).mono ?_);(case side1=>exact zC (Kd.C_below HR0.out HB.out));(case side2=>exact HC0.out);rintro e w' ⟨rfl,⟨nd,rfl⟩⟩)|((with_reducible refine gate_builtin (b:=.append) (xs:=#[.tmp 28,.tmp 30]) rfl ?_);at_builtin;refine Kd.R_append (Kd.int .i64) (w0:=w) w.heap.size rfl (.tmp 28) (.tmp 30) 43 3 (.int .i64 0) 8 rfl Try.underlying43 info3 rfl (by decide) (by omega) u5 x5_1 x6_1 [.int .i64 x6_1] (fun _=>True) (fun _=>False) rfl rfl ?aP (fun _ hk=>hk.elim) ?aF ?aO ?aB ?aS ?aL ?_;(case aP=>exact rfl);(case aB=>exact zb);(case aF=>exact (fun _ _=>trivial));(case aO=>exact (zR HO_5.out));(case aS=>exact (below_size zb));(case aL=>have:=LMc14.out;omega);intro v253 w15 ho hb hg hat;rw [←Ny252.out] at ho;replace HB:=Aside0.mk (hb);have HO254:=Aside0.mk (ho);clear HO_5;clear ho hb hg hat))
           go_roundg k1
           case measure=>have:=HK1.out;omega
           case rel=>exact ⟨(y252),(wrap64 (x6_1 + 1)),zo,H',⟨by have:=HK1.out;omega⟩,⟨zR HO254.out⟩,⟨zb⟩⟩
          ·rw [if_neg c14] at H
           exact absurd H (by simp)
        ·replace c11:=Bool.eq_false_iff.mpr c11
         subst c11
         have H1:(spec_l7Followers.l0 k1 l0 a1 x5_1 (wrap64 (x6_1 + 1)))=some r:=by rw [if_neg (show ¬ (false=true) by decide)] at H;exact H
         clear H
         have H:=H1
         clear H1
         have H':=Aside0.mk H
         clear H
         have p249:0≤(a1:Int):=of_decide_eq_true za
         have q249:a1<(l0.length:Int):=of_decide_eq_true za
         obtain ⟨ad249,A249_0,c249_0,e249,hx249_0,hl249_0,hi249_0⟩:=at_L3 HR0.out a1 p249 q249
         cases e249
         replace hx249_0:=(HB.out.cell (World.block_lt_of_cell? w _ hx249_0)).trans hx249_0
         have HR249_0:=Aside0.mk hi249_0
         have HC249_0:=Aside0.mk hl249_0
         clear hi249_0 hl249_0
         replace p249:=eq_true p249
         replace q249:=eq_true q249
         have p250:0≤(x6_1:Int):=of_decide_eq_true za
         have q250:x6_1<((rd_L3 l0 a1).length:Int):=of_decide_eq_true za
         obtain ⟨ad250,e250,hx250_0⟩:=Kd.at_bool HR249_0.out x6_1 p250 q250
         (try rw [←Nbq10.out] at hx250_0)
         cases e250
         replace hx250_0:=(HB.out.cell (World.block_lt_of_cell? w _ hx250_0)).trans hx250_0
         replace p250:=eq_true p250
         replace q250:=eq_true q250
         go_wp2
         go_roundg k1
         case measure=>have:=HK1.out;omega
         case rel=>exact ⟨(x5_1),(wrap64 (x6_1 + 1)),zo,H',⟨by have:=HK1.out;omega⟩,⟨zR HO_5.out⟩,⟨zb⟩⟩
       ·rw [if_neg c9] at H
        exact absurd H (by simp)
      ·rw [if_neg c8] at H
       exact absurd H (by simp)
     ·rw [if_neg c7] at H
      exact absurd H (by simp)
    ·rw [if_neg c6] at H
     exact absurd H (by simp)
   ·rw [if_neg c5] at H
    have c5b0:decide (x6_1<(l0.length:Int))=false:=decide_eq_false c5
    clear c5
    obtain rfl:=Option.some.inj H
    go_wp2
    go_ret
    exact ⟨_,by first|rfl|(simp [errW_none,errW_some] <;> rfl)|(simp [*,errW_none,errW_some] <;> rfl),zR HO_5.out,zb⟩

/-! ### spec_l7Told: function 111 -/
mutual
def spec_l7Told.l0:Nat→List Int→List Int→List Int→Int→Option (List Int × Bool)
 | 0,_,_,_,_=>none
 | k + 1,x1,x8,x9,x10=>if x10>0 then (spec_l7Told.l1 k x1 x8 x9 x10 0) else (some (x9,((x9.length:Int) == (x8.length:Int))))
def spec_l7Told.l1:Nat→List Int→List Int→List Int→Int→Int→Option (List Int × Bool)
 | 0,_,_,_,_,_=>none
 | k + 1,x1,x8,x9,x10,x11=>if x11<(x8.length:Int) then (if 0≤x11 then (if 0≤(rd x8 x11) then (if (rd x8 x11)<(x1.length:Int) then (if (rd x1 (rd x8 x11))=x10 then (if x9.length<17592186044416 then (spec_l7Told.l1 k x1 x8 (x9++[x10]) x10 (wrap64 (x11 + 1))) else (none)) else (spec_l7Told.l1 k x1 x8 x9 x10 (wrap64 (x11 + 1)))) else (none)) else (none)) else (none)) else (spec_l7Told.l0 k x1 x8 x9 (wrap64 (x10 - 1)))
end
def spec_l7Told.f (k:Nat) (l0:List (List Bool)) (l1:List Int) (a2:Int):Option (List Int × Bool):=(spec_l7Followers.f k l0 a2).bind fun t255=>(spec_l7Told.l0 k l1 t255 (([]:List Int)) (l1.length:Int))
theorem spec_l7Told.mono_l:∀ k,(∀ y0 y1 y2 y3,LeO (spec_l7Told.l0 k y0 y1 y2 y3) (spec_l7Told.l0 (k + 1) y0 y1 y2 y3))∧(∀ y0 y1 y2 y3 y4,LeO (spec_l7Told.l1 k y0 y1 y2 y3 y4) (spec_l7Told.l1 (k + 1) y0 y1 y2 y3 y4))
 | 0=>⟨fun _ _ _ _ r h=>by simp [spec_l7Told.l0] at h,fun _ _ _ _ _ r h=>by simp [spec_l7Told.l1] at h⟩
 | k + 1=>by
  obtain ⟨ih0,ih1⟩:=spec_l7Told.mono_l k
  refine ⟨?_,?_⟩
  ·intro y0 y1 y2 y3
   unfold spec_l7Told.l0
   repeat' first
   | (with_reducible exact ih0 _ _ _ _)
   | (with_reducible exact ih1 _ _ _ _ _)
   | (with_reducible exact spec_l7Followers.mono _ _ _)
   | (with_reducible exact LeO.refl _)
   | (with_reducible exact LeO.none _)
   | (with_reducible refine LeO.ite ?_ ?_)
   | (with_reducible refine LeO.bind ?_ (fun _=>?_))
   | exact ih0 _ _ _ _
   | exact ih1 _ _ _ _ _
   | exact spec_l7Followers.mono _ _ _
   | exact LeO.none _
   | refine LeO.ite ?_ ?_
   | refine LeO.bind ?_ (fun _=>?_)
  ·intro y0 y1 y2 y3 y4
   unfold spec_l7Told.l1
   repeat' first
   | (with_reducible exact ih0 _ _ _ _)
   | (with_reducible exact ih1 _ _ _ _ _)
   | (with_reducible exact spec_l7Followers.mono _ _ _)
   | (with_reducible exact LeO.refl _)
   | (with_reducible exact LeO.none _)
   | (with_reducible refine LeO.ite ?_ ?_)
   | (with_reducible refine LeO.bind ?_ (fun _=>?_))
   | exact ih0 _ _ _ _
   | exact ih1 _ _ _ _ _
   | exact spec_l7Followers.mono _ _ _
   | exact LeO.none _
   | refine LeO.ite ?_ ?_
   | refine LeO.bind ?_ (fun _=>?_)
theorem spec_l7Told.mono:∀ a0 a1 a2 k,LeO (spec_l7Told.f k a0 a1 a2) (spec_l7Told.f (k + 1) a0 a1 a2):=by
 intro a0 a1 a2 k
 obtain ⟨ih0,ih1⟩:=spec_l7Told.mono_l k
 unfold spec_l7Told.f
 repeat' first
   | (with_reducible exact ih0 _ _ _ _)
   | (with_reducible exact ih1 _ _ _ _ _)
   | (with_reducible exact spec_l7Followers.mono _ _ _)
   | (with_reducible exact LeO.refl _)
   | (with_reducible exact LeO.none _)
   | (with_reducible refine LeO.ite ?_ ?_)
   | (with_reducible refine LeO.bind ?_ (fun _=>?_))
   | exact ih0 _ _ _ _
   | exact ih1 _ _ _ _ _
   | exact spec_l7Followers.mono _ _ _
   | exact LeO.none _
   | refine LeO.ite ?_ ?_
   | refine LeO.bind ?_ (fun _=>?_)
set_option maxHeartbeats 8000000 in
set_option maxRecDepth 100000 in
theorem spec_l7Told.calls (k:Nat) (A0:Option Addr) (c0:Nat) (l0:List (List Bool)) (A1:Option Addr) (c1:Nat) (l1:List Int) (a2:Int) (r1:List Int) (r2:Bool) (w:World) (hr0:Kd.C (Kd.slice 4 Kd.bool) w A0 l0.length l0) (hc0:l0.length≤c0) (hr1:Kd.C (Kd.int .i64) w A1 l1.length l1) (hc1:l1.length≤c1) (h:spec_l7Told.f k l0 l1 a2=some (r1,r2)) :
  Calls Try.prog 111 #[.slice A0 l0.length c0,.slice A1 l1.length c1,.int .i64 a2] w fun e w'=>∃ v0_:Value,e=.returned (.tuple #[v0_,.bool r2])∧Kd.R (Kd.int .i64) 3 w' w.heap.size (fun _=>True) v0_ r1∧Below w.heap.size w w':=by
 have HR0:=Aside0.mk hr0
 have HC0:=Aside0.mk hc0
 clear hr0 hc0
 have HR1:=Aside0.mk hr1
 have HC1:=Aside0.mk hc1
 clear hr1 hc1
 have HB:=Aside0.mk (Below.refl w.heap.size w)
 have H:((spec_l7Followers.f k l0 a2).bind fun t255=>(spec_l7Told.l0 k l1 t255 (([]:List Int)) (l1.length:Int)))=some (r1,r2):=h
 clear h
 replace H:=Option.bind_eq_some_iff.mp H
 obtain ⟨t255,A40,H⟩:=H
 replace H:(spec_l7Told.l0 k l1 t255 (([]:List Int)) (l1.length:Int))=some (r1,r2):=H
 have A4:=Aside0.mk A40
 clear A40
 obtain ⟨y258,hy258⟩:∃ y_:List Int,y_=(([]:List Int)):=⟨_,rfl⟩
 replace H:(spec_l7Told.l0 k l1 t255 y258 (l1.length:Int))=some (r1,r2):=by first|(rw [hy258];with_reducible exact H)|(have H2_:=(Option.bind_some _ _).symm.trans H;rw [hy258];with_reducible exact H2_)|(have H2_:=(Option.bind_some _ _).symm.trans H;with_reducible exact H2_)|with_reducible exact H|(rw [hy258];exact H)|exact H
 have Ny258:=Aside0.mk hy258
 clear hy258
 have H':=Aside0.mk H
 clear H
 go_enter Try.func111,Try.ntmps111
 go_wp2_with (first|((with_reducible refine gate_callee (f:=157) rfl ?_);refine goesL_ (some 14) rfl rfl Try.func157 (by kernel_rfl) rfl #[.slice A0 l0.length c0,.int .i64 a2] rfl zl ?_;(with_reducible refine (spec_l7Followers.calls k _ _ l0 a2 t255 _ ?side1 ?side2 A4.out).mono ?_);(case side1=>exact zC HR0.out);(case side2=>exact HC0.out);rintro e w5 ⟨v256,rfl,ho0,hb⟩;refine ⟨_,rfl,?_⟩;have HO257:=Aside0.mk (Kd.R_lower ho0 (below_size zb));replace HB:=Aside0.mk (below_step zb hb);(try clear hb);(try clear ho0))|((with_reducible refine gate_dst (N:=15) rfl ?_);refine Kd.R_lit (Kd.int .i64) _ 3 ?hg (N:=15) ?hd (xs:=([]:List Int)) (inner:=[]) (ok:=fun _=>True) (okp:=fun _=>True) ?hr ?hp (fun _ hk=>hk) trivial (Below.refl _ _) (Nat.le_refl _) (by simp) ?_;(case hd=>rfl);(case hg=>rfl);(case hr=>first|(go_simp;done)|(go_simp;rfl));(case hp=>exact (Reps.none _ _));intro v259 w6 ho7 hb hg_ hnew_;clear hg_ hnew_;(first|rw [←Ny258.out] at ho7|(simp only [Int.reduceToNat] at ho7;rw [←Ny258.out] at ho7));have n0_:=Aside0.mk (Kd.R_elder' (zR HO257.out) (Kd.R_base ho7) hb);have n1_:=Aside0.mk (Kd.R_lower (Kd.R_new' ho7 (Kd.R_lt (zR HO257.out))) (below_size zb));have n2_:=Aside0.mk (below_step zb hb);clear HO257;clear HB;have HO257:=n0_;have HO260:=n1_;have HB:=n2_;clear n0_ n1_ n2_;clear hb ho7))
 go_loopg [9,10] k (fun kq v9 v10 w'=>∃ (x9_1:List Int) (x10_1:Int),v10=.int .i64 x10_1∧Aside0 (spec_l7Told.l0 kq l1 t255 x9_1 x10_1=some (r1,r2))∧Aside0 (kq≤k)∧Aside0 (Kd.R (Kd.int .i64) 3 w' w.heap.size (fun k_=>some k_≠(v9:Value).ownBlock) v256 t255)∧Aside0 (Kd.R (Kd.int .i64) 3 w' w.heap.size (fun k_=>some k_≠(v256:Value).ownBlock) v9 x9_1)∧Aside0 (Below w.heap.size w w'))
 case atStart=>exact ⟨(y258),((l1.length:Int)),zo,H',⟨Nat.le_refl _⟩,⟨zR (Kd.R_mono HO257.out (fun _ hk=>hk.2))⟩,⟨zR (Kd.R_mono HO260.out (fun _ hk=>hk.2))⟩,⟨zb⟩⟩
 case round=>
  clear H'
  (try clear c1);(try clear p2)
  obtain ⟨x9_1,x10_1,rfl,HA,HK1,HO_8,HO_9,HB⟩:=hrel
  cases gk with
  | zero=>exact absurd HA.out (by simp [spec_l7Told.l0])
  | succ k1=>
   have H:=HA.out
   clear HA
   simp only [spec_l7Told.l0] at H
   by_cases c8:x10_1>0
   ·rw [if_pos c8] at H
    have c8b0:decide (0<x10_1)=true:=decide_eq_true c8
    clear c8
    have H':=Aside0.mk H
    clear H
    go_wp2
    go_loopg [9,11] k1 (fun kq v9 v11 w'=>∃ (x9_2:List Int) (x11_2:Int),v11=.int .i64 x11_2∧Aside0 (spec_l7Told.l1 kq l1 t255 x9_2 x10_1 x11_2=some (r1,r2))∧Aside0 (kq≤k1)∧Aside0 (Kd.R (Kd.int .i64) 3 w' w.heap.size (fun k_=>some k_≠(v9:Value).ownBlock) v256 t255)∧Aside0 (Kd.R (Kd.int .i64) 3 w' w.heap.size (fun k_=>some k_≠(v256:Value).ownBlock) v9 x9_2)∧Aside0 (Below w.heap.size w w'))
    case atStart=>exact ⟨(x9_1),(0),zo,H',⟨Nat.le_refl _⟩,⟨zR HO_8.out⟩,⟨zR HO_9.out⟩,⟨zb⟩⟩
    case round=>
     clear H'
     (try clear c1);(try clear p2);(try clear c8);(try clear c8b0)
     obtain ⟨x9_2,x11_2,rfl,HA,HK2,HO_8,HO_9,HB⟩:=hrel
     cases gk with
     | zero=>exact absurd HA.out (by simp [spec_l7Told.l1])
     | succ k2=>
      have H:=HA.out
      clear HA
      simp only [spec_l7Told.l1] at H
      by_cases c9:x11_2<(t255.length:Int)
      ·rw [if_pos c9] at H
       have c9b0:decide (x11_2<(t255.length:Int))=true:=decide_eq_true c9
       clear c9
       by_cases c10:0≤x11_2
       ·rw [if_pos c10] at H
        have c10b0:decide (0≤x11_2)=true:=decide_eq_true c10
        clear c10
        by_cases c11:0≤(rd t255 x11_2)
        ·rw [if_pos c11] at H
         have c11b0:decide (0≤(rd t255 x11_2))=true:=decide_eq_true c11
         clear c11
         by_cases c12:(rd t255 x11_2)<(l1.length:Int)
         ·rw [if_pos c12] at H
          have c12b0:decide ((rd t255 x11_2)<(l1.length:Int))=true:=decide_eq_true c12
          clear c12
          by_cases c13:(rd l1 (rd t255 x11_2))=x10_1
          ·rw [if_pos c13] at H
           have c13b0:((rd l1 (rd t255 x11_2)) == x10_1)=true:=beq_iff_eq.mpr c13
           have c13b1:((rd l1 (rd t255 x11_2)) != x10_1)=false:=bne_eq_false_iff_eq.mpr c13
           clear c13
           by_cases c14:x9_2.length<17592186044416
           ·rw [if_pos c14] at H
            have LMc14:=Aside0.mk c14
            clear c14
            obtain ⟨y263,hy263⟩:∃ y_:List Int,y_=(x9_2++[x10_1]):=⟨_,rfl⟩
            replace H:(spec_l7Told.l1 k2 l1 t255 y263 x10_1 (wrap64 (x11_2 + 1)))=some (r1,r2):=by first|(rw [hy263];with_reducible exact H)|(have H2_:=(Option.bind_some _ _).symm.trans H;rw [hy263];with_reducible exact H2_)|(have H2_:=(Option.bind_some _ _).symm.trans H;with_reducible exact H2_)|with_reducible exact H|(rw [hy263];exact H)|exact H
            have Ny263:=Aside0.mk hy263
            clear hy263
            have H':=Aside0.mk H
            clear H
            obtain ⟨Ao15,co15,eo15⟩:=Kd.R_slice HO_8.out
            subst eo15
            have p261:0≤(x11_2:Int):=of_decide_eq_true za
            have q261:x11_2<(t255.length:Int):=of_decide_eq_true za
            obtain ⟨ad261,e261,hx261_0⟩:=Kd.at_int (Kd.R_reads' HO_8.out).2.2 x11_2 p261 q261
            cases e261
            replace p261:=eq_true p261
            replace q261:=eq_true q261
            have p262:0≤((rd t255 x11_2):Int):=of_decide_eq_true za
            have q262:(rd t255 x11_2)<(l1.length:Int):=of_decide_eq_true za
            obtain ⟨ad262,e262,hx262_0⟩:=Kd.at_int HR1.out (rd t255 x11_2) p262 q262
            cases e262
            replace hx262_0:=(HB.out.cell (World.block_lt_of_cell? w _ hx262_0)).trans hx262_0
            replace p262:=eq_true p262
            replace q262:=eq_true q262
            go_wp2_with (first|((with_reducible refine gate_builtin (b:=.append) (xs:=#[.tmp 37,.tmp 39]) rfl ?_);at_builtin;refine Kd.R_append (Kd.int .i64) (w0:=w) w.heap.size rfl (.tmp 37) (.tmp 39) 43 3 (.int .i64 0) 8 rfl Try.underlying43 info3 rfl (by decide) (by omega) u9 x9_2 x10_1 [.int .i64 x10_1] (fun k_=>some k_≠(.slice (some ad261) t255.length co15:Value).ownBlock) (fun _=>False) rfl rfl ?aP (fun _ hk=>hk.elim) ?aF ?aO ?aB ?aS ?aL ?_;(case aP=>exact rfl);(case aB=>exact zb);(case aF=>exact (fun k_ hk=>Kd.fresh' (Kd.R_lt (zR HO_8.out)) k_ hk));(case aO=>exact (zR HO_9.out));(case aS=>exact (below_size zb));(case aL=>have:=LMc14.out;omega);intro v264 w16 ho hb hg hat;rw [←Ny263.out] at ho;replace HO_8:=Aside0.mk (Kd.R_after (ok:=(fun _=>True)) (zR (Kd.R_mono HO_8.out (fun _ hk=>⟨trivial,hk⟩))) hg hat);replace HB:=Aside0.mk (hb);have HO265:=Aside0.mk (ho);clear HO_9;clear ho hb hg hat))
            go_roundg k2
            case measure=>have:=HK1.out;have:=HK2.out;omega
            case rel=>exact ⟨(y263),(wrap64 (x11_2 + 1)),zo,H',⟨by have:=HK1.out;have:=HK2.out;omega⟩,⟨zR (Kd.R_mono HO_8.out (fun _ hk=>hk.2))⟩,⟨zR HO265.out⟩,⟨zb⟩⟩
           ·rw [if_neg c14] at H
            exact absurd H (by simp)
          ·rw [if_neg c13] at H
           have c13b0:((rd l1 (rd t255 x11_2)) == x10_1)=false:=beq_eq_false_iff_ne.mpr c13
           have c13b1:((rd l1 (rd t255 x11_2)) != x10_1)=true:=bne_iff_ne.mpr c13
           have H':=Aside0.mk H
           clear H
           obtain ⟨Ao17,co17,eo17⟩:=Kd.R_slice HO_8.out
           subst eo17
           have p261:0≤(x11_2:Int):=of_decide_eq_true za
           have q261:x11_2<(t255.length:Int):=of_decide_eq_true za
           obtain ⟨ad261,e261,hx261_0⟩:=Kd.at_int (Kd.R_reads' HO_8.out).2.2 x11_2 p261 q261
           cases e261
           replace p261:=eq_true p261
           replace q261:=eq_true q261
           have p262:0≤((rd t255 x11_2):Int):=of_decide_eq_true za
           have q262:(rd t255 x11_2)<(l1.length:Int):=of_decide_eq_true za
           obtain ⟨ad262,e262,hx262_0⟩:=Kd.at_int HR1.out (rd t255 x11_2) p262 q262
           cases e262
           replace hx262_0:=(HB.out.cell (World.block_lt_of_cell? w _ hx262_0)).trans hx262_0
           replace p262:=eq_true p262
           replace q262:=eq_true q262
           go_wp2
           go_roundg k2
           case measure=>have:=HK1.out;have:=HK2.out;omega
           case rel=>exact ⟨(x9_2),(wrap64 (x11_2 + 1)),zo,H',⟨by have:=HK1.out;have:=HK2.out;omega⟩,⟨zR HO_8.out⟩,⟨zR HO_9.out⟩,⟨zb⟩⟩
         ·rw [if_neg c12] at H
          exact absurd H (by simp)
        ·rw [if_neg c11] at H
         exact absurd H (by simp)
       ·rw [if_neg c10] at H
        exact absurd H (by simp)
      ·rw [if_neg c9] at H
       have c9b0:decide (x11_2<(t255.length:Int))=false:=decide_eq_false c9
       clear c9
       have H':=Aside0.mk H
       clear H
       obtain ⟨Ao18,co18,eo18⟩:=Kd.R_slice HO_8.out
       subst eo18
       go_wp2
       go_roundg k2
       case measure=>have:=HK1.out;have:=HK2.out;omega
       case rel=>exact ⟨(x9_2),(wrap64 (x10_1 - 1)),zo,H',⟨by have:=HK1.out;have:=HK2.out;omega⟩,⟨zR HO_8.out⟩,⟨zR HO_9.out⟩,⟨zb⟩⟩
   ·rw [if_neg c8] at H
    have c8b0:decide (0<x10_1)=false:=decide_eq_false c8
    clear c8
    simp only [Option.some.injEq,Prod.mk.injEq] at H
    obtain ⟨rfl,rfl⟩:=H
    obtain ⟨Ao19,co19,eo19⟩:=Kd.R_slice HO_9.out
    subst eo19
    obtain ⟨Ao20,co20,eo20⟩:=Kd.R_slice HO_8.out
    subst eo20
    go_wp2
    go_ret2
    exact ⟨_,by first|rfl|(simp [errW_none,errW_some] <;> rfl)|(simp [*,errW_none,errW_some] <;> rfl),zR (Kd.R_mono HO_9.out (fun _ hk=>trivial)),zb⟩

end Go.Proofs.Ytbcfmegepkhlpaa.XFnExactLabelPlan
-- minified
