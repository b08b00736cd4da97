-- Written by a program of this session (the kit's print, widened). Proved here: what each function answers, for the arguments that its contract names.
import Derived.Test.YtbcfmegepkhlpaaXFnExactBestListPlanx0
namespace Go.Proofs.Ytbcfmegepkhlpaa.XFnExactBestListPlan
open Go.RowKit Go.Proofs.YtbcfmegepkhlpaaW.PrintWords Go.Proofs.YtbcfmegepkhlpaaW.PrintLast Go.Proofs.YtbcfmegepkhlpaaW.PrintMore
attribute [local go_sem] max2_int min2_int max_two min_two max_three min_three max_four min_four   -- for this text's walks alone
attribute [local go_sem] idxA_72_0 idxA_72_1 fldS_96_0 fldS_96_1 fldS_96_2 fldS_111_0 fldS_111_1 fldS_111_2
set_option linter.unusedVariables false
set_option linter.unusedSimpArgs false

/-! ### spec_l7Next: function 108 -/
mutual
def spec_l7Next.l0:Nat→List (List Bool)→List Int→List Int→Int→Int→Option (Int)
 | 0,_,_,_,_,_=>none
 | k + 1,x0,x1,x2,x3,x9=>if x9<(x1.length:Int) then (if 0≤x9 then (if 0≤(rd x1 x9) then (if (rd x1 x9)<(x2.length:Int) then (if (rd x2 (rd x1 x9))≥0 then (spec_l7Next.l0 k x0 x1 x2 x3 (wrap64 (x9 + 1))) else (spec_l7Next.l1 k x0 x1 x2 x3 x9 true 0)) else (none)) else (none)) else (none)) else (some (-1))
def spec_l7Next.l1:Nat→List (List Bool)→List Int→List Int→Int→Int→Bool→Int→Option (Int)
 | 0,_,_,_,_,_,_,_=>none
 | k + 1,x0,x1,x2,x3,x9,x10,x11=>if x11<(x2.length:Int) then (if 0≤x11 then (if x11<(x0.length:Int) then (if 0≤x9 then (if x9<(x1.length:Int) then (if 0≤(rd x1 x9) then (if (rd x1 x9)<((rd_L6 x0 x11).length:Int) then (if rdOf false (rd_L6 x0 x11) (rd x1 x9)=true then (if (rd x2 x11)<0 then (spec_l7Next.l1 k x0 x1 x2 x3 x9 false (wrap64 (x11 + 1))) else (if (rd x2 x11)>x3 then (spec_l7Next.l1 k x0 x1 x2 x3 x9 false (wrap64 (x11 + 1))) else (spec_l7Next.l1 k x0 x1 x2 x3 x9 x10 (wrap64 (x11 + 1))))) else (spec_l7Next.l1 k x0 x1 x2 x3 x9 x10 (wrap64 (x11 + 1)))) else (none)) else (none)) else (none)) else (none)) else (none)) else (none)) else (if x10=true then (if 0≤x9 then (if x9<(x1.length:Int) then (some (rd x1 x9)) else (none)) else (none)) else (spec_l7Next.l0 k x0 x1 x2 x3 (wrap64 (x9 + 1))))
end
def spec_l7Next.f (k:Nat) (l0:List (List Bool)) (l1:List Int) (l2:List Int) (a3:Int):Option (Int):=spec_l7Next.l0 k l0 l1 l2 a3 0
theorem spec_l7Next.mono_l:∀ k,(∀ y0 y1 y2 y3 y4,LeO (spec_l7Next.l0 k y0 y1 y2 y3 y4) (spec_l7Next.l0 (k + 1) y0 y1 y2 y3 y4))∧(∀ y0 y1 y2 y3 y4 y5 y6,LeO (spec_l7Next.l1 k y0 y1 y2 y3 y4 y5 y6) (spec_l7Next.l1 (k + 1) y0 y1 y2 y3 y4 y5 y6))
 | 0=>⟨fun _ _ _ _ _ r h=>by simp [spec_l7Next.l0] at h,fun _ _ _ _ _ _ _ r h=>by simp [spec_l7Next.l1] at h⟩
 | k + 1=>by
  obtain ⟨ih0,ih1⟩:=spec_l7Next.mono_l k
  refine ⟨?_,?_⟩
  ·intro y0 y1 y2 y3 y4
   unfold spec_l7Next.l0
   repeat' first
   | (with_reducible exact ih0 _ _ _ _ _)
   | (with_reducible exact ih1 _ _ _ _ _ _ _)
   | (with_reducible exact LeO.refl _)
   | (with_reducible exact LeO.none _)
   | (with_reducible refine LeO.ite ?_ ?_)
   | (with_reducible refine LeO.bind ?_ (fun _=>?_))
   | exact ih0 _ _ _ _ _
   | exact ih1 _ _ _ _ _ _ _
   | exact LeO.none _
   | refine LeO.ite ?_ ?_
   | refine LeO.bind ?_ (fun _=>?_)
  ·intro y0 y1 y2 y3 y4 y5 y6
   unfold spec_l7Next.l1
   repeat' first
   | (with_reducible exact ih0 _ _ _ _ _)
   | (with_reducible exact ih1 _ _ _ _ _ _ _)
   | (with_reducible exact LeO.refl _)
   | (with_reducible exact LeO.none _)
   | (with_reducible refine LeO.ite ?_ ?_)
   | (with_reducible refine LeO.bind ?_ (fun _=>?_))
   | exact ih0 _ _ _ _ _
   | exact ih1 _ _ _ _ _ _ _
   | exact LeO.none _
   | refine LeO.ite ?_ ?_
   | refine LeO.bind ?_ (fun _=>?_)
theorem spec_l7Next.mono:∀ a0 a1 a2 a3 k,LeO (spec_l7Next.f k a0 a1 a2 a3) (spec_l7Next.f (k + 1) a0 a1 a2 a3):=by
 intro a0 a1 a2 a3 k
 obtain ⟨ih0,ih1⟩:=spec_l7Next.mono_l k
 unfold spec_l7Next.f
 repeat' first
   | (with_reducible exact ih0 _ _ _ _ _)
   | (with_reducible exact ih1 _ _ _ _ _ _ _)
   | (with_reducible exact LeO.refl _)
   | (with_reducible exact LeO.none _)
   | (with_reducible refine LeO.ite ?_ ?_)
   | (with_reducible refine LeO.bind ?_ (fun _=>?_))
   | exact ih0 _ _ _ _ _
   | exact ih1 _ _ _ _ _ _ _
   | exact LeO.none _
   | refine LeO.ite ?_ ?_
   | refine LeO.bind ?_ (fun _=>?_)
set_option maxHeartbeats 8000000 in
set_option maxRecDepth 100000 in
theorem spec_l7Next.calls (k:Nat) (A0:Option Addr) (c0:Nat) (l0:List (List Bool)) (A1:Option Addr) (c1:Nat) (l1:List Int) (A2:Option Addr) (c2:Nat) (l2:List Int) (a3:Int) (r:Int) (w:World) (hr0:Kd.C (Kd.slice 4 Kd.bool) w A0 l0.length l0) (hc0:l0.length≤c0) (hr1:Kd.C (Kd.int .i64) w A1 l1.length l1) (hc1:l1.length≤c1) (hr2:Kd.C (Kd.int .i64) w A2 l2.length l2) (hc2:l2.length≤c2) (h:spec_l7Next.f k l0 l1 l2 a3=some r) :
  Calls Try.prog 108 #[.slice A0 l0.length c0,.slice A1 l1.length c1,.slice A2 l2.length c2,.int .i64 a3] w fun e w'=>e=.returned (.int .i64 r)∧Drawn0 w w':=by
 have HR0:=Aside0.mk hr0
 have HC0:=Aside0.mk hc0
 clear hr0 hc0
 have HR1:=Aside0.mk hr1
 have HC1:=Aside0.mk hc1
 clear hr1 hc1
 have HR2:=Aside0.mk hr2
 have HC2:=Aside0.mk hc2
 clear hr2 hc2
 have H:(spec_l7Next.l0 k l0 l1 l2 a3 0)=some r:=h
 clear h
 have H':=Aside0.mk H
 clear H
 go_enter Try.func108,Try.ntmps108
 go_wp2
 repeat (go_quiet (fail);try go_wp2)
 go_loopg [9] k (fun kq v9 w'=>∃ (x9_1:Int),v9=.int .i64 x9_1∧Aside0 (spec_l7Next.l0 kq l0 l1 l2 a3 x9_1=some r)∧Aside0 (kq≤k)∧Drawn0 w w')
 case atStart=>exact ⟨(0),zo,H',⟨Nat.le_refl _⟩,by repeat (first|exact Drawn0.refl _|apply Drawn0.step)⟩
 case round=>
  clear H'
  (try clear c1);(try clear c2);(try clear p2)
  obtain ⟨x9_1,rfl,HA,HK1,⟨m1,rfl⟩⟩:=hrel
  cases gk with
  | zero=>exact absurd HA.out (by simp [spec_l7Next.l0])
  | succ k1=>
   have H:=HA.out
   clear HA
   simp only [spec_l7Next.l0] at H
   by_cases c5:x9_1<(l1.length:Int)
   ·rw [if_pos c5] at H
    have c5b0:decide (x9_1<(l1.length:Int))=true:=decide_eq_true c5
    clear c5
    by_cases c6:0≤x9_1
    ·rw [if_pos c6] at H
     have c6b0:decide (0≤x9_1)=true:=decide_eq_true c6
     clear c6
     by_cases c7:0≤(rd l1 x9_1)
     ·rw [if_pos c7] at H
      have c7b0:decide (0≤(rd l1 x9_1))=true:=decide_eq_true c7
      clear c7
      by_cases c8:(rd l1 x9_1)<(l2.length:Int)
      ·rw [if_pos c8] at H
       have c8b0:decide ((rd l1 x9_1)<(l2.length:Int))=true:=decide_eq_true c8
       clear c8
       by_cases c9:(rd l2 (rd l1 x9_1))≥0
       ·rw [if_pos c9] at H
        have c9b0:decide (0≤(rd l2 (rd l1 x9_1)))=true:=decide_eq_true c9
        clear c9
        have H':=Aside0.mk H
        clear H
        have p167:0≤(x9_1:Int):=of_decide_eq_true za
        have q167:x9_1<(l1.length:Int):=of_decide_eq_true za
        obtain ⟨ad167,e167,hx167_0⟩:=Kd.at_int HR1.out x9_1 p167 q167
        cases e167
        replace p167:=eq_true p167
        replace q167:=eq_true q167
        have p168:0≤((rd l1 x9_1):Int):=of_decide_eq_true za
        have q168:(rd l1 x9_1)<(l2.length:Int):=of_decide_eq_true za
        obtain ⟨ad168,e168,hx168_0⟩:=Kd.at_int HR2.out (rd l1 x9_1) p168 q168
        cases e168
        replace p168:=eq_true p168
        replace q168:=eq_true q168
        go_wp2
        repeat (go_quiet (fail);try go_wp2)
        go_roundg k1
        case measure=>have:=HK1.out;omega
        case rel=>exact ⟨(wrap64 (x9_1 + 1)),zo,H',⟨by have:=HK1.out;omega⟩,by repeat (first|exact Drawn0.refl _|apply Drawn0.step)⟩
       ·rw [if_neg c9] at H
        have c9b0:decide (0≤(rd l2 (rd l1 x9_1)))=false:=decide_eq_false c9
        clear c9
        have H':=Aside0.mk H
        clear H
        have p167:0≤(x9_1:Int):=of_decide_eq_true za
        have q167:x9_1<(l1.length:Int):=of_decide_eq_true za
        obtain ⟨ad167,e167,hx167_0⟩:=Kd.at_int HR1.out x9_1 p167 q167
        cases e167
        replace p167:=eq_true p167
        replace q167:=eq_true q167
        have p168:0≤((rd l1 x9_1):Int):=of_decide_eq_true za
        have q168:(rd l1 x9_1)<(l2.length:Int):=of_decide_eq_true za
        obtain ⟨ad168,e168,hx168_0⟩:=Kd.at_int HR2.out (rd l1 x9_1) p168 q168
        cases e168
        replace p168:=eq_true p168
        replace q168:=eq_true q168
        go_wp2
        repeat (go_quiet (fail);try go_wp2)
        go_loopg [10,11] k1 (fun kq v10 v11 w'=>∃ (x10_2:Bool) (x11_2:Int),v10=.bool x10_2∧v11=.int .i64 x11_2∧Aside0 (spec_l7Next.l1 kq l0 l1 l2 a3 x9_1 x10_2 x11_2=some r)∧Aside0 (kq≤k1)∧Drawn0 w w')
        case atStart=>exact ⟨(true),(0),zo,zo,H',⟨Nat.le_refl _⟩,by repeat (first|exact Drawn0.refl _|apply Drawn0.step)⟩
        case round=>
         clear H'
         (try clear c1);(try clear p1);(try clear q1);(try clear hx1);(try clear c2);(try clear p2);(try clear c5);(try clear c5b0);(try clear c6);(try clear c6b0);(try clear p6);(try clear c7);(try clear c7b0);(try clear c8);(try clear c8b0);(try clear c9);(try clear c9b0);(try clear hx167_0);(try clear hx168_0);(try clear p167);(try clear p168);(try clear q167);(try clear q168)
         obtain ⟨x10_2,x11_2,rfl,rfl,HA,HK2,⟨m2,rfl⟩⟩:=hrel
         cases gk with
         | zero=>exact absurd HA.out (by simp [spec_l7Next.l1])
         | succ k2=>
          have H:=HA.out
          clear HA
          simp only [spec_l7Next.l1] at H
          by_cases c10:x11_2<(l2.length:Int)
          ·rw [if_pos c10] at H
           have c10b0:decide (x11_2<(l2.length:Int))=true:=decide_eq_true c10
           clear c10
           by_cases c11:0≤x11_2
           ·rw [if_pos c11] at H
            have c11b0:decide (0≤x11_2)=true:=decide_eq_true c11
            clear c11
            by_cases c12:x11_2<(l0.length:Int)
            ·rw [if_pos c12] at H
             have c12b0:decide (x11_2<(l0.length:Int))=true:=decide_eq_true c12
             clear c12
             by_cases c13:0≤x9_1
             ·rw [if_pos c13] at H
              have c13b0:decide (0≤x9_1)=true:=decide_eq_true c13
              clear c13
              by_cases c14:x9_1<(l1.length:Int)
              ·rw [if_pos c14] at H
               have c14b0:decide (x9_1<(l1.length:Int))=true:=decide_eq_true c14
               clear c14
               by_cases c15:0≤(rd l1 x9_1)
               ·rw [if_pos c15] at H
                have c15b0:decide (0≤(rd l1 x9_1))=true:=decide_eq_true c15
                clear c15
                by_cases c16:(rd l1 x9_1)<((rd_L6 l0 x11_2).length:Int)
                ·rw [if_pos c16] at H
                 have c16b0:decide ((rd l1 x9_1)<((rd_L6 l0 x11_2).length:Int))=true:=decide_eq_true c16
                 clear c16
                 obtain ⟨bq17,hbq17⟩:∃ b_:Bool,b_=(rdOf false (rd_L6 l0 x11_2) (rd l1 x9_1)):=⟨_,rfl⟩
                 replace H:(if bq17=true then (if (rd l2 x11_2)<0 then (spec_l7Next.l1 k2 l0 l1 l2 a3 x9_1 false (wrap64 (x11_2 + 1))) else (if (rd l2 x11_2)>a3 then (spec_l7Next.l1 k2 l0 l1 l2 a3 x9_1 false (wrap64 (x11_2 + 1))) else (spec_l7Next.l1 k2 l0 l1 l2 a3 x9_1 x10_2 (wrap64 (x11_2 + 1))))) else (spec_l7Next.l1 k2 l0 l1 l2 a3 x9_1 x10_2 (wrap64 (x11_2 + 1))))=some r:=by rw [←hbq17] at H;exact H
                 have Nbq17:=Aside0.mk hbq17
                 clear hbq17
                 by_cases c18:bq17=true
                 ·subst c18
                  have H1:(if (rd l2 x11_2)<0 then (spec_l7Next.l1 k2 l0 l1 l2 a3 x9_1 false (wrap64 (x11_2 + 1))) else (if (rd l2 x11_2)>a3 then (spec_l7Next.l1 k2 l0 l1 l2 a3 x9_1 false (wrap64 (x11_2 + 1))) else (spec_l7Next.l1 k2 l0 l1 l2 a3 x9_1 x10_2 (wrap64 (x11_2 + 1)))))=some r:=by rw [if_pos rfl] at H;exact H
                  clear H
                  have H:=H1
                  clear H1
                  by_cases c19:(rd l2 x11_2)<0
                  ·rw [if_pos c19] at H
                   have c19b0:decide ((rd l2 x11_2)<0)=true:=decide_eq_true c19
                   clear c19
                   have H':=Aside0.mk H
                   clear H
                   have p169:0≤(x11_2:Int):=of_decide_eq_true za
                   have q169:x11_2<(l0.length:Int):=of_decide_eq_true za
                   obtain ⟨ad169,A169_0,c169_0,e169,hx169_0,hl169_0,hi169_0⟩:=at_L6 HR0.out x11_2 p169 q169
                   cases e169
                   have HR169_0:=Aside0.mk hi169_0
                   have HC169_0:=Aside0.mk hl169_0
                   clear hi169_0 hl169_0
                   replace p169:=eq_true p169
                   replace q169:=eq_true q169
                   have p170:0≤(x9_1:Int):=of_decide_eq_true za
                   have q170:x9_1<(l1.length:Int):=of_decide_eq_true za
                   obtain ⟨ad170,e170,hx170_0⟩:=Kd.at_int HR1.out x9_1 p170 q170
                   obtain rfl:ad167=ad170:=(by injection e170)
                   replace p170:=eq_true p170
                   replace q170:=eq_true q170
                   have p171:0≤((rd l1 x9_1):Int):=of_decide_eq_true za
                   have q171:(rd l1 x9_1)<((rd_L6 l0 x11_2).length:Int):=of_decide_eq_true za
                   obtain ⟨ad171,e171,hx171_0⟩:=Kd.at_bool HR169_0.out (rd l1 x9_1) p171 q171
                   (try rw [←Nbq17.out] at hx171_0)
                   cases e171
                   replace p171:=eq_true p171
                   replace q171:=eq_true q171
                   have p172:0≤(x11_2:Int):=of_decide_eq_true za
                   have q172:x11_2<(l2.length:Int):=of_decide_eq_true za
                   obtain ⟨ad172,e172,hx172_0⟩:=Kd.at_int HR2.out x11_2 p172 q172
                   obtain rfl:ad168=ad172:=(by injection e172)
                   replace p172:=eq_true p172
                   replace q172:=eq_true q172
                   go_wp2
                   repeat (go_quiet (fail);try go_wp2)
                   go_roundg k2
                   case measure=>have:=HK1.out;have:=HK2.out;omega
                   case rel=>exact ⟨(false),(wrap64 (x11_2 + 1)),zo,zo,H',⟨by have:=HK1.out;have:=HK2.out;omega⟩,by repeat (first|exact Drawn0.refl _|apply Drawn0.step)⟩
                  ·rw [if_neg c19] at H
                   have c19b0:decide ((rd l2 x11_2)<0)=false:=decide_eq_false c19
                   clear c19
                   by_cases c20:(rd l2 x11_2)>a3
                   ·rw [if_pos c20] at H
                    have c20b0:decide (a3<(rd l2 x11_2))=true:=decide_eq_true c20
                    clear c20
                    have H':=Aside0.mk H
                    clear H
                    have p169:0≤(x11_2:Int):=of_decide_eq_true za
                    have q169:x11_2<(l0.length:Int):=of_decide_eq_true za
                    obtain ⟨ad169,A169_0,c169_0,e169,hx169_0,hl169_0,hi169_0⟩:=at_L6 HR0.out x11_2 p169 q169
                    cases e169
                    have HR169_0:=Aside0.mk hi169_0
                    have HC169_0:=Aside0.mk hl169_0
                    clear hi169_0 hl169_0
                    replace p169:=eq_true p169
                    replace q169:=eq_true q169
                    have p170:0≤(x9_1:Int):=of_decide_eq_true za
                    have q170:x9_1<(l1.length:Int):=of_decide_eq_true za
                    obtain ⟨ad170,e170,hx170_0⟩:=Kd.at_int HR1.out x9_1 p170 q170
                    obtain rfl:ad167=ad170:=(by injection e170)
                    replace p170:=eq_true p170
                    replace q170:=eq_true q170
                    have p171:0≤((rd l1 x9_1):Int):=of_decide_eq_true za
                    have q171:(rd l1 x9_1)<((rd_L6 l0 x11_2).length:Int):=of_decide_eq_true za
                    obtain ⟨ad171,e171,hx171_0⟩:=Kd.at_bool HR169_0.out (rd l1 x9_1) p171 q171
                    (try rw [←Nbq17.out] at hx171_0)
                    cases e171
                    replace p171:=eq_true p171
                    replace q171:=eq_true q171
                    have p172:0≤(x11_2:Int):=of_decide_eq_true za
                    have q172:x11_2<(l2.length:Int):=of_decide_eq_true za
                    obtain ⟨ad172,e172,hx172_0⟩:=Kd.at_int HR2.out x11_2 p172 q172
                    obtain rfl:ad168=ad172:=(by injection e172)
                    replace p172:=eq_true p172
                    replace q172:=eq_true q172
                    have p173:0≤(x11_2:Int):=of_decide_eq_true za
                    have q173:x11_2<(l2.length:Int):=of_decide_eq_true za
                    obtain ⟨ad173,e173,hx173_0⟩:=Kd.at_int HR2.out x11_2 p173 q173
                    obtain rfl:ad168=ad173:=(by injection e173)
                    replace p173:=eq_true p173
                    replace q173:=eq_true q173
                    go_wp2
                    repeat (go_quiet (fail);try go_wp2)
                    go_roundg k2
                    case measure=>have:=HK1.out;have:=HK2.out;omega
                    case rel=>exact ⟨(false),(wrap64 (x11_2 + 1)),zo,zo,H',⟨by have:=HK1.out;have:=HK2.out;omega⟩,by repeat (first|exact Drawn0.refl _|apply Drawn0.step)⟩
                   ·rw [if_neg c20] at H
                    have c20b0:decide (a3<(rd l2 x11_2))=false:=decide_eq_false c20
                    clear c20
                    have H':=Aside0.mk H
                    clear H
                    have p169:0≤(x11_2:Int):=of_decide_eq_true za
                    have q169:x11_2<(l0.length:Int):=of_decide_eq_true za
                    obtain ⟨ad169,A169_0,c169_0,e169,hx169_0,hl169_0,hi169_0⟩:=at_L6 HR0.out x11_2 p169 q169
                    cases e169
                    have HR169_0:=Aside0.mk hi169_0
                    have HC169_0:=Aside0.mk hl169_0
                    clear hi169_0 hl169_0
                    replace p169:=eq_true p169
                    replace q169:=eq_true q169
                    have p170:0≤(x9_1:Int):=of_decide_eq_true za
                    have q170:x9_1<(l1.length:Int):=of_decide_eq_true za
                    obtain ⟨ad170,e170,hx170_0⟩:=Kd.at_int HR1.out x9_1 p170 q170
                    obtain rfl:ad167=ad170:=(by injection e170)
                    replace p170:=eq_true p170
                    replace q170:=eq_true q170
                    have p171:0≤((rd l1 x9_1):Int):=of_decide_eq_true za
                    have q171:(rd l1 x9_1)<((rd_L6 l0 x11_2).length:Int):=of_decide_eq_true za
                    obtain ⟨ad171,e171,hx171_0⟩:=Kd.at_bool HR169_0.out (rd l1 x9_1) p171 q171
                    (try rw [←Nbq17.out] at hx171_0)
                    cases e171
                    replace p171:=eq_true p171
                    replace q171:=eq_true q171
                    have p172:0≤(x11_2:Int):=of_decide_eq_true za
                    have q172:x11_2<(l2.length:Int):=of_decide_eq_true za
                    obtain ⟨ad172,e172,hx172_0⟩:=Kd.at_int HR2.out x11_2 p172 q172
                    obtain rfl:ad168=ad172:=(by injection e172)
                    replace p172:=eq_true p172
                    replace q172:=eq_true q172
                    have p173:0≤(x11_2:Int):=of_decide_eq_true za
                    have q173:x11_2<(l2.length:Int):=of_decide_eq_true za
                    obtain ⟨ad173,e173,hx173_0⟩:=Kd.at_int HR2.out x11_2 p173 q173
                    obtain rfl:ad168=ad173:=(by injection e173)
                    replace p173:=eq_true p173
                    replace q173:=eq_true q173
                    go_wp2
                    repeat (go_quiet (fail);try go_wp2)
                    go_roundg k2
                    case measure=>have:=HK1.out;have:=HK2.out;omega
                    case rel=>exact ⟨(x10_2),(wrap64 (x11_2 + 1)),zo,zo,H',⟨by have:=HK1.out;have:=HK2.out;omega⟩,by repeat (first|exact Drawn0.refl _|apply Drawn0.step)⟩
                 ·replace c18:=Bool.eq_false_iff.mpr c18
                  subst c18
                  have H1:(spec_l7Next.l1 k2 l0 l1 l2 a3 x9_1 x10_2 (wrap64 (x11_2 + 1)))=some r:=by rw [if_neg (show ¬ (false=true) by decide)] at H;exact H
                  clear H
                  have H:=H1
                  clear H1
                  have H':=Aside0.mk H
                  clear H
                  have p169:0≤(x11_2:Int):=of_decide_eq_true za
                  have q169:x11_2<(l0.length:Int):=of_decide_eq_true za
                  obtain ⟨ad169,A169_0,c169_0,e169,hx169_0,hl169_0,hi169_0⟩:=at_L6 HR0.out x11_2 p169 q169
                  cases e169
                  have HR169_0:=Aside0.mk hi169_0
                  have HC169_0:=Aside0.mk hl169_0
                  clear hi169_0 hl169_0
                  replace p169:=eq_true p169
                  replace q169:=eq_true q169
                  have p170:0≤(x9_1:Int):=of_decide_eq_true za
                  have q170:x9_1<(l1.length:Int):=of_decide_eq_true za
                  obtain ⟨ad170,e170,hx170_0⟩:=Kd.at_int HR1.out x9_1 p170 q170
                  obtain rfl:ad167=ad170:=(by injection e170)
                  replace p170:=eq_true p170
                  replace q170:=eq_true q170
                  have p171:0≤((rd l1 x9_1):Int):=of_decide_eq_true za
                  have q171:(rd l1 x9_1)<((rd_L6 l0 x11_2).length:Int):=of_decide_eq_true za
                  obtain ⟨ad171,e171,hx171_0⟩:=Kd.at_bool HR169_0.out (rd l1 x9_1) p171 q171
                  (try rw [←Nbq17.out] at hx171_0)
                  cases e171
                  replace p171:=eq_true p171
                  replace q171:=eq_true q171
                  go_wp2
                  repeat (go_quiet (fail);try go_wp2)
                  go_roundg k2
                  case measure=>have:=HK1.out;have:=HK2.out;omega
                  case rel=>exact ⟨(x10_2),(wrap64 (x11_2 + 1)),zo,zo,H',⟨by have:=HK1.out;have:=HK2.out;omega⟩,by repeat (first|exact Drawn0.refl _|apply Drawn0.step)⟩
                ·rw [if_neg c16] at H
                 exact absurd H (by simp)
               ·rw [if_neg c15] at H
                exact absurd H (by simp)
              ·rw [if_neg c14] at H
               exact absurd H (by simp)
             ·rw [if_neg c13] at H
              exact absurd H (by simp)
            ·rw [if_neg c12] at H
             exact absurd H (by simp)
           ·rw [if_neg c11] at H
            exact absurd H (by simp)
          ·rw [if_neg c10] at H
           have c10b0:decide (x11_2<(l2.length:Int))=false:=decide_eq_false c10
           clear c10
           by_cases c21:x10_2=true
           ·subst c21
            have H1:(if 0≤x9_1 then (if x9_1<(l1.length:Int) then (some (rd l1 x9_1)) else (none)) else (none))=some r:=by rw [if_pos rfl] at H;exact H
            clear H
            have H:=H1
            clear H1
            by_cases c22:0≤x9_1
            ·rw [if_pos c22] at H
             have c22b0:decide (0≤x9_1)=true:=decide_eq_true c22
             clear c22
             by_cases c23:x9_1<(l1.length:Int)
             ·rw [if_pos c23] at H
              have c23b0:decide (x9_1<(l1.length:Int))=true:=decide_eq_true c23
              clear c23
              obtain rfl:=Option.some.inj H
              have p174:0≤(x9_1:Int):=of_decide_eq_true za
              have q174:x9_1<(l1.length:Int):=of_decide_eq_true za
              obtain ⟨ad174,e174,hx174_0⟩:=Kd.at_int HR1.out x9_1 p174 q174
              obtain rfl:ad167=ad174:=(by injection e174)
              replace p174:=eq_true p174
              replace q174:=eq_true q174
              go_wp2
              repeat (go_quiet (fail);try go_wp2)
              go_ret
              exact ⟨by first|rfl|(simp;done)|(simp [*];done),by repeat (first|exact Drawn0.refl _|apply Drawn0.step)⟩
             ·rw [if_neg c23] at H
              exact absurd H (by simp)
            ·rw [if_neg c22] at H
             exact absurd H (by simp)
           ·replace c21:=Bool.eq_false_iff.mpr c21
            subst c21
            have H1:(spec_l7Next.l0 k2 l0 l1 l2 a3 (wrap64 (x9_1 + 1)))=some r:=by rw [if_neg (show ¬ (false=true) by decide)] at H;exact H
            clear H
            have H:=H1
            clear H1
            have H':=Aside0.mk H
            clear H
            go_wp2
            repeat (go_quiet (fail);try go_wp2)
            go_roundg k2
            case measure=>have:=HK1.out;have:=HK2.out;omega
            case rel=>exact ⟨(wrap64 (x9_1 + 1)),zo,H',⟨by have:=HK1.out;have:=HK2.out;omega⟩,by repeat (first|exact Drawn0.refl _|apply Drawn0.step)⟩
      ·rw [if_neg c8] at H
       exact absurd H (by simp)
     ·rw [if_neg c7] at H
      exact absurd H (by simp)
    ·rw [if_neg c6] at H
     exact absurd H (by simp)
   ·rw [if_neg c5] at H
    have c5b0:decide (x9_1<(l1.length:Int))=false:=decide_eq_false c5
    clear c5
    obtain rfl:=Option.some.inj H
    go_wp2
    repeat (go_quiet (fail);try go_wp2)
    go_ret
    exact ⟨by first|rfl|(simp;done)|(simp [*];done),by repeat (first|exact Drawn0.refl _|apply Drawn0.step)⟩

/-! ### spec_l7Soon: function 109 -/
def spec_l7Soon.l0:Nat→List Int→Int→Int→Int→Option (Int)
 | 0,_,_,_,_=>none
 | k + 1,x0,x1,x5,x6=>if x6<(x0.length:Int) then (if 0≤x6 then (if (rd x0 x6)>x1 then (if x5<0 then (spec_l7Soon.l0 k x0 x1 (rd x0 x6) (wrap64 (x6 + 1))) else (if (rd x0 x6)<x5 then (spec_l7Soon.l0 k x0 x1 (rd x0 x6) (wrap64 (x6 + 1))) else (spec_l7Soon.l0 k x0 x1 x5 (wrap64 (x6 + 1))))) else (spec_l7Soon.l0 k x0 x1 x5 (wrap64 (x6 + 1)))) else (none)) else (some x5)
def spec_l7Soon.f (k:Nat) (l0:List Int) (a1:Int):Option (Int):=spec_l7Soon.l0 k l0 a1 (-1) 0
theorem spec_l7Soon.mono_l:∀ k,(∀ y0 y1 y2 y3,LeO (spec_l7Soon.l0 k y0 y1 y2 y3) (spec_l7Soon.l0 (k + 1) y0 y1 y2 y3))
 | 0=>fun _ _ _ _ r h=>by simp [spec_l7Soon.l0] at h
 | k + 1=>by
  have ih0:=spec_l7Soon.mono_l k
  ·intro y0 y1 y2 y3
   unfold spec_l7Soon.l0
   repeat' first
   | (with_reducible exact ih0 _ _ _ _)
   | (with_reducible exact LeO.refl _)
   | (with_reducible exact LeO.none _)
   | (with_reducible refine LeO.ite ?_ ?_)
   | (with_reducible refine LeO.bind ?_ (fun _=>?_))
   | exact ih0 _ _ _ _
   | exact LeO.none _
   | refine LeO.ite ?_ ?_
   | refine LeO.bind ?_ (fun _=>?_)
theorem spec_l7Soon.mono:∀ a0 a1 k,LeO (spec_l7Soon.f k a0 a1) (spec_l7Soon.f (k + 1) a0 a1):=by
 intro a0 a1 k
 have ih0:=spec_l7Soon.mono_l k
 unfold spec_l7Soon.f
 repeat' first
   | (with_reducible exact ih0 _ _ _ _)
   | (with_reducible exact LeO.refl _)
   | (with_reducible exact LeO.none _)
   | (with_reducible refine LeO.ite ?_ ?_)
   | (with_reducible refine LeO.bind ?_ (fun _=>?_))
   | exact ih0 _ _ _ _
   | exact LeO.none _
   | refine LeO.ite ?_ ?_
   | refine LeO.bind ?_ (fun _=>?_)
set_option maxHeartbeats 8000000 in
set_option maxRecDepth 100000 in
theorem spec_l7Soon.calls (k:Nat) (A0:Option Addr) (c0:Nat) (l0:List Int) (a1:Int) (r:Int) (w:World) (hr0:Kd.C (Kd.int .i64) w A0 l0.length l0) (hc0:l0.length≤c0) (h:spec_l7Soon.f k l0 a1=some r) :
  Calls Try.prog 109 #[.slice A0 l0.length c0,.int .i64 a1] w fun e w'=>e=.returned (.int .i64 r)∧Drawn0 w w':=by
 have HR0:=Aside0.mk hr0
 have HC0:=Aside0.mk hc0
 clear hr0 hc0
 have H:(spec_l7Soon.l0 k l0 a1 (-1) 0)=some r:=h
 clear h
 have H':=Aside0.mk H
 clear H
 go_enter Try.func109,Try.ntmps109
 go_wp2
 go_loopg [5,6] k (fun kq v5 v6 w'=>∃ (x5_1:Int) (x6_1:Int),v5=.int .i64 x5_1∧v6=.int .i64 x6_1∧Aside0 (spec_l7Soon.l0 kq l0 a1 x5_1 x6_1=some r)∧Aside0 (kq≤k)∧Drawn0 w w')
 case atStart=>exact ⟨((-1)),(0),zo,zo,H',⟨Nat.le_refl _⟩,by repeat (first|exact Drawn0.refl _|apply Drawn0.step)⟩
 case round=>
  clear H'
  (try clear c1);(try clear p2)
  obtain ⟨x5_1,x6_1,rfl,rfl,HA,HK1,⟨m1,rfl⟩⟩:=hrel
  cases gk with
  | zero=>exact absurd HA.out (by simp [spec_l7Soon.l0])
  | succ k1=>
   have H:=HA.out
   clear HA
   simp only [spec_l7Soon.l0] at H
   by_cases c3:x6_1<(l0.length:Int)
   ·rw [if_pos c3] at H
    have c3b0:decide (x6_1<(l0.length:Int))=true:=decide_eq_true c3
    clear c3
    by_cases c4:0≤x6_1
    ·rw [if_pos c4] at H
     have c4b0:decide (0≤x6_1)=true:=decide_eq_true c4
     clear c4
     by_cases c5:(rd l0 x6_1)>a1
     ·rw [if_pos c5] at H
      have c5b0:decide (a1<(rd l0 x6_1))=true:=decide_eq_true c5
      clear c5
      by_cases c6:x5_1<0
      ·rw [if_pos c6] at H
       have c6b0:decide (x5_1<0)=true:=decide_eq_true c6
       clear c6
       have H':=Aside0.mk H
       clear H
       have p175:0≤(x6_1:Int):=of_decide_eq_true za
       have q175:x6_1<(l0.length:Int):=of_decide_eq_true za
       obtain ⟨ad175,e175,hx175_0⟩:=Kd.at_int HR0.out x6_1 p175 q175
       cases e175
       replace p175:=eq_true p175
       replace q175:=eq_true q175
       have p176:0≤(x6_1:Int):=of_decide_eq_true za
       have q176:x6_1<(l0.length:Int):=of_decide_eq_true za
       obtain ⟨ad176,e176,hx176_0⟩:=Kd.at_int HR0.out x6_1 p176 q176
       obtain rfl:ad175=ad176:=(by injection e176)
       replace p176:=eq_true p176
       replace q176:=eq_true q176
       go_wp2
       go_roundg k1
       case measure=>have:=HK1.out;omega
       case rel=>exact ⟨(rd l0 x6_1),(wrap64 (x6_1 + 1)),zo,zo,H',⟨by have:=HK1.out;omega⟩,by repeat (first|exact Drawn0.refl _|apply Drawn0.step)⟩
      ·rw [if_neg c6] at H
       have c6b0:decide (x5_1<0)=false:=decide_eq_false c6
       clear c6
       by_cases c7:(rd l0 x6_1)<x5_1
       ·rw [if_pos c7] at H
        have c7b0:decide ((rd l0 x6_1)<x5_1)=true:=decide_eq_true c7
        clear c7
        have H':=Aside0.mk H
        clear H
        have p175:0≤(x6_1:Int):=of_decide_eq_true za
        have q175:x6_1<(l0.length:Int):=of_decide_eq_true za
        obtain ⟨ad175,e175,hx175_0⟩:=Kd.at_int HR0.out x6_1 p175 q175
        cases e175
        replace p175:=eq_true p175
        replace q175:=eq_true q175
        have p177:0≤(x6_1:Int):=of_decide_eq_true za
        have q177:x6_1<(l0.length:Int):=of_decide_eq_true za
        obtain ⟨ad177,e177,hx177_0⟩:=Kd.at_int HR0.out x6_1 p177 q177
        obtain rfl:ad175=ad177:=(by injection e177)
        replace p177:=eq_true p177
        replace q177:=eq_true q177
        have p178:0≤(x6_1:Int):=of_decide_eq_true za
        have q178:x6_1<(l0.length:Int):=of_decide_eq_true za
        obtain ⟨ad178,e178,hx178_0⟩:=Kd.at_int HR0.out x6_1 p178 q178
        obtain rfl:ad175=ad178:=(by injection e178)
        replace p178:=eq_true p178
        replace q178:=eq_true q178
        go_wp2
        go_roundg k1
        case measure=>have:=HK1.out;omega
        case rel=>exact ⟨(rd l0 x6_1),(wrap64 (x6_1 + 1)),zo,zo,H',⟨by have:=HK1.out;omega⟩,by repeat (first|exact Drawn0.refl _|apply Drawn0.step)⟩
       ·rw [if_neg c7] at H
        have c7b0:decide ((rd l0 x6_1)<x5_1)=false:=decide_eq_false c7
        clear c7
        have H':=Aside0.mk H
        clear H
        have p175:0≤(x6_1:Int):=of_decide_eq_true za
        have q175:x6_1<(l0.length:Int):=of_decide_eq_true za
        obtain ⟨ad175,e175,hx175_0⟩:=Kd.at_int HR0.out x6_1 p175 q175
        cases e175
        replace p175:=eq_true p175
        replace q175:=eq_true q175
        have p177:0≤(x6_1:Int):=of_decide_eq_true za
        have q177:x6_1<(l0.length:Int):=of_decide_eq_true za
        obtain ⟨ad177,e177,hx177_0⟩:=Kd.at_int HR0.out x6_1 p177 q177
        obtain rfl:ad175=ad177:=(by injection e177)
        replace p177:=eq_true p177
        replace q177:=eq_true q177
        go_wp2
        go_roundg k1
        case measure=>have:=HK1.out;omega
        case rel=>exact ⟨(x5_1),(wrap64 (x6_1 + 1)),zo,zo,H',⟨by have:=HK1.out;omega⟩,by repeat (first|exact Drawn0.refl _|apply Drawn0.step)⟩
     ·rw [if_neg c5] at H
      have c5b0:decide (a1<(rd l0 x6_1))=false:=decide_eq_false c5
      clear c5
      have H':=Aside0.mk H
      clear H
      have p175:0≤(x6_1:Int):=of_decide_eq_true za
      have q175:x6_1<(l0.length:Int):=of_decide_eq_true za
      obtain ⟨ad175,e175,hx175_0⟩:=Kd.at_int HR0.out x6_1 p175 q175
      cases e175
      replace p175:=eq_true p175
      replace q175:=eq_true q175
      go_wp2
      go_roundg k1
      case measure=>have:=HK1.out;omega
      case rel=>exact ⟨(x5_1),(wrap64 (x6_1 + 1)),zo,zo,H',⟨by have:=HK1.out;omega⟩,by repeat (first|exact Drawn0.refl _|apply Drawn0.step)⟩
    ·rw [if_neg c4] at H
     exact absurd H (by simp)
   ·rw [if_neg c3] at H
    have c3b0:decide (x6_1<(l0.length:Int))=false:=decide_eq_false c3
    clear c3
    obtain rfl:=Option.some.inj H
    go_wp2
    go_ret
    exact ⟨by first|rfl|(simp;done)|(simp [*];done),by repeat (first|exact Drawn0.refl _|apply Drawn0.step)⟩

end Go.Proofs.Ytbcfmegepkhlpaa.XFnExactBestListPlan
-- minified
