/- Proved here: what functions that the law FnLateWeight reaches answer (drawT, spec_l1Cur_next, spec_l1Cur_pick, spec_l1Cur_one, spec_l1Cur_among, spec_l1Cur_job, spec_l1Cur_spoiltJob, spec_l1Cur_someJobs, totalBoth, permsAll, endsBd, lateL, lateP, exchP, bstP, lateVal, edd, tabP, lateDP, lateSpec, lateImpl). Conditions: those that each theorem names. -/
import Derived.Test.YtkolecmpncaooaaQFnLateWeighta
set_option linter.unusedVariables false
set_option linter.unusedSimpArgs false
namespace Go.Proofs.Ytkolecmpncaooaa.Pure
open Go.RowKit Go.Proofs.Ytkolecmpncaooaa.XFnLateWeight Go.Proofs.YtkolecmpncaooaaW.PrintWords Go.Proofs.YtkolecmpncaooaaW.PrintLast

/-- The bytes of a draw. -/
def ByteL (s:List Int):Prop:=∀ x ∈ s,(Lit.int .u8 x).wf=true
theorem byte_in {x:Int} (h:(Lit.int .u8 x).wf=true):0≤x∧x≤255:=by
 simp [Lit.wf,IntKind.min,IntKind.max,IntKind.signed,IntKind.bits] at h
 omega
theorem u64_range (n:Int):0≤IntKind.u64.wrap n∧IntKind.u64.wrap n<18446744073709551616:=by
 have:IntKind.u64.wrap n=n % 18446744073709551616:=by simp [IntKind.wrap,IntKind.bits,IntKind.signed]
 rw [this];omega
theorem u64_small (n:Int) (h0:0≤n) (h1:n<2 ^ 24):IntKind.u64.wrap n=n:=by
 have:IntKind.u64.wrap n=n % 18446744073709551616:=by simp [IntKind.wrap,IntKind.bits,IntKind.signed]
 rw [this];omega
theorem u64_byte (n:Int):0≤wrap64 (Go.bits .and .u64 (IntKind.u64.wrap n / 1099511627776) 255)∧wrap64 (Go.bits .and .u64 (IntKind.u64.wrap n / 1099511627776) 255)≤255:=by
 have hr:=u64_range n
 have h:=bits_mask .u64 24 (by decide) u64_small 8 (by decide) (IntKind.u64.wrap n / 1099511627776) (by omega) (by omega)
 have h2:Go.bits .and .u64 (IntKind.u64.wrap n / 1099511627776) 255=IntKind.u64.wrap n / 1099511627776 % 256:=by simpa using h
 rw [h2,wr (by omega) (by omega)]
 omega

theorem nx {s:List Int} (hs:ByteL s) (p q:Int) (hp:0≤p) (hb:p≤1000000000000000):∃ v q',spec_l1Cur_next.f s p q=some (v,p + 1,q')∧0≤v∧v≤255:=by
 unfold spec_l1Cur_next.f
 have w:wrap64 (p + 1)=p + 1:=wr (by omega) (by omega)
 rw [w]
 by_cases c1:p<(s.length:Int)
 ·rw [if_pos c1,if_pos hp,if_pos (by omega)]
  have hm:rd s p ∈ s:=by
   rw [rd,List.getD_eq_getElem?_getD,List.getElem?_eq_getElem (by omega)]
   exact List.getElem_mem _
  have hx:=byte_in (hs _ hm)
  exact ⟨_,_,rfl,by rw [wr (by omega) (by omega)];omega,by rw [wr (by omega) (by omega)];omega⟩
 ·rw [if_neg c1,if_neg (by omega)]
  exact ⟨_,_,rfl,(u64_byte _).1,(u64_byte _).2⟩

theorem pk {s:List Int} (hs:ByteL s) (p q a:Int) (hp:0≤p) (hb:p≤900000000000000):∃ v p' q',spec_l1Cur_pick.f s p q a=some (v,p',q')∧0≤v∧(1≤a→v<a)∧p≤p'∧p'≤p + 2:=by
 unfold spec_l1Cur_pick.f
 by_cases h1:a≤1
 ·rw [if_pos h1]
  exact ⟨0,p,q,rfl,by omega,by omega,by omega,by omega⟩
 ·rw [if_neg h1]
  obtain ⟨v,q1,e1,hv0,hv1⟩:=nx hs p q hp (by omega)
  rw [e1,Option.bind_some]
  by_cases h2:a>200
  ·rw [if_pos h2]
   obtain ⟨u,q2,e2,hu0,hu1⟩:=nx hs (p + 1) q1 (by omega) (by omega)
   rw [e2,Option.bind_some,if_neg (by omega)]
   have hw:wrap64 (wrap64 (v * 256) + u)=v * 256 + u:=by rw [wr (x:=v * 256) (by omega) (by omega),wr (by omega) (by omega)]
   refine ⟨_,_,_,rfl,?_,fun _=>?_,by show p≤p + 1 + 1;omega,by show p + 1 + 1≤p + 2;omega⟩
   ·rw [hw];exact Int.tmod_nonneg _ (by omega)
   ·rw [hw];exact Int.tmod_lt_of_pos _ (by omega)
  ·rw [if_neg h2,if_neg (by omega)]
   exact ⟨_,_,_,rfl,Int.tmod_nonneg _ hv0,fun _=>Int.tmod_lt_of_pos _ (by omega),by show p≤p + 1;omega,by show p + 1≤p + 2;omega⟩

theorem on {s:List Int} (hs:ByteL s) (p q a:Int) (hp:0≤p) (hb:p≤900000000000000):∃ b p' q',spec_l1Cur_one.f s p q a=some (b,p',q')∧p≤p'∧p'≤p + 2:=by
 unfold spec_l1Cur_one.f
 obtain ⟨v,p1,q1,e,_,_,h1,h2⟩:=pk hs p q a hp hb
 rw [e,Option.bind_some]
 exact ⟨_,_,_,rfl,h1,h2⟩

theorem am {s:List Int} (hs:ByteL s) (p q:Int) (l:List Int) (hl:0<l.length) (hp:0≤p) (hb:p≤900000000000000):∃ v p' q',spec_l1Cur_among.f s p q l=some (v,p',q')∧v ∈ l∧p≤p'∧p'≤p + 2:=by
 unfold spec_l1Cur_among.f
 obtain ⟨v,p1,q1,e,h0,h3,h1,h2⟩:=pk hs p q (l.length:Int) hp hb
 have h4:=h3 (by omega)
 rw [e,Option.bind_some,if_pos h0,if_pos h4]
 refine ⟨_,_,_,rfl,?_,h1,h2⟩
 show rd l v ∈ l
 rw [rd,List.getD_eq_getElem?_getD,List.getElem?_eq_getElem (by omega)]
 exact List.getElem_mem _

theorem jb {s:List Int} (hs:ByteL s) (p q:Int) (a:Bool) (hp:0≤p) (hb:p≤800000000000000):∃ x0 x1 x2 x3 p' q',spec_l1Cur_job.f s p q a=some (x0,x1,x2,x3,p',q')∧p≤p'∧p'≤p + 8:=by
 unfold spec_l1Cur_job.f
 obtain ⟨v1,p1,q1,e1,_,h1,h2⟩:=am hs p q [1,2,3,4,5,7,9] (by simp) hp (by omega)
 rw [e1,Option.bind_some]
 obtain ⟨v2,p2,q2,e2,_,h3,h4⟩:=am hs p1 q1 [0,1,1,2,3,5,8] (by simp) (by omega) (by omega)
 simp only [e2,Option.bind_some]
 obtain ⟨v3,p3,q3,e3,_,_,h5,h6⟩:=pk hs p2 q2 24 (by omega) (by omega)
 simp only [e3,Option.bind_some]
 by_cases c:a=true
 ·rw [if_pos c]
  obtain ⟨v4,p4,q4,e4,_,_,h7,h8⟩:=pk hs p3 q3 12 (by omega) (by omega)
  simp only [e4,Option.bind_some]
  exact ⟨_,_,_,_,_,_,rfl,by omega,by omega⟩
 ·rw [if_neg c]
  exact ⟨_,_,_,_,_,_,rfl,by omega,by omega⟩

theorem sj {s:List Int} (hs:ByteL s) (p q a0 a1 a2 a3:Int) (hp:0≤p) (hb:p≤800000000000000):∃ x0 x1 x2 x3 p' q',spec_l1Cur_spoiltJob.f s p q a0 a1 a2 a3=some (x0,x1,x2,x3,p',q')∧p≤p'∧p'≤p + 8:=by
 unfold spec_l1Cur_spoiltJob.f
 obtain ⟨v,p1,q1,e1,_,_,h1,h2⟩:=pk hs p q 4 hp (by omega)
 rw [e1,Option.bind_some]
 have g:=fun (l:List Int) (hl:0<l.length)=>am hs p1 q1 l hl (by omega) (by omega)
 dsimp only
 split
 ·obtain ⟨u,p2,q2,e2,_,h3,h4⟩:=g [0,50,51,(-1),4611686018427387904] (by simp)
  rw [e2,Option.bind_some]
  exact ⟨_,_,_,_,_,_,rfl,by show p≤p2;omega,by show p2≤p + 8;omega⟩
 ·split
  ·obtain ⟨u,p2,q2,e2,_,h3,h4⟩:=g [(-1),50,51] (by simp)
   rw [e2,Option.bind_some]
   exact ⟨_,_,_,_,_,_,rfl,by show p≤p2;omega,by show p2≤p + 8;omega⟩
  ·split
   ·obtain ⟨u,p2,q2,e2,_,h3,h4⟩:=g [(-1),500,501] (by simp)
    rw [e2,Option.bind_some]
    exact ⟨_,_,_,_,_,_,rfl,by show p≤p2;omega,by show p2≤p + 8;omega⟩
   ·obtain ⟨u,p2,q2,e2,_,h3,h4⟩:=g [(-1),500,501,(-9223372036854775808)] (by simp)
    rw [e2,Option.bind_some]
    exact ⟨_,_,_,_,_,_,rfl,by show p≤p2;omega,by show p2≤p + 8;omega⟩

theorem someJobs_l1 {s:List Int} (hs:ByteL s) (a:Bool):∀ (c:Nat) (jobs:List J) (p q:Int),jobs.length≤100→9≤jobs.length + c→c≤1000→0≤p→p + 8 * c≤700000000000000→∃ r p' q',Ev (fun k=>spec_l1Cur_someJobs.l1 k a jobs s p q) (r,p',q')∧r.length≤100∧p≤p'∧p'≤p + 8 * c:=by
 intro c
 induction c with
 | zero=>
  intro jobs p q h1 h2 _ hp hb
  refine ⟨jobs,p,q,ev_stop fun k=>?_,h1,by omega,by omega⟩
  simp only [spec_l1Cur_someJobs.l1];rw [if_neg (by omega)]
 | succ c ih=>
  intro jobs p q h1 h2 h3 hp hb
  by_cases hl:(jobs.length:Int)<9
  ·obtain ⟨x0,x1,x2,x3,p1,q1,e,h4,h5⟩:=jb hs p q a hp (by omega)
   obtain ⟨r,p2,q2,hr,h6,h7,h8⟩:=ih (jobs++[⟨x0,x1,x2,x3⟩]) p1 q1 (by simp;omega) (by simp;omega) (by omega) (by omega) (by omega)
   refine ⟨r,p2,q2,ev_go _ (fun k=>?_) hr,h6,by omega,by omega⟩
   simp only [spec_l1Cur_someJobs.l1];rw [if_pos hl,e,Option.bind_some,if_pos (by omega)]
  ·refine ⟨jobs,p,q,ev_stop fun k=>?_,h1,by omega,by omega⟩
   simp only [spec_l1Cur_someJobs.l1];rw [if_neg hl]
theorem someJobs_j5 {s:List Int} (hs:ByteL s) (a:Bool) (jobs:List J) (p q:Int) (h1:jobs.length≤100) (hp:0≤p) (hb:p≤600000000000000):∃ r p' q',Ev (fun k=>spec_l1Cur_someJobs.j5 k a jobs s p q) (r,p',q')∧r.length≤100∧p≤p'∧p'≤p + 100:=by
 obtain ⟨b,p1,q1,e,h2,h3⟩:=on hs p q 60 hp (by omega)
 by_cases c:b=true
 ·obtain ⟨r,p2,q2,hr,h4,h5,h6⟩:=someJobs_l1 hs a 9 jobs p1 q1 h1 (by omega) (by omega) (by omega) (by omega)
  refine ⟨r,p2,q2,ev_go _ (fun k=>?_) hr,h4,by omega,by omega⟩
  simp only [spec_l1Cur_someJobs.j5];rw [e,Option.bind_some,if_pos c]
 ·refine ⟨jobs,p1,q1,ev_stop fun k=>?_,h1,by omega,by omega⟩
  simp only [spec_l1Cur_someJobs.j5];rw [e,Option.bind_some,if_neg c]
theorem someJobs_j4 {s:List Int} (hs:ByteL s) (a b:Bool) (jobs:List J) (p q:Int) (hne:b=true→0<jobs.length) (h1:jobs.length≤100) (hp:0≤p) (hb:p≤500000000000000):∃ r p' q',Ev (fun k=>spec_l1Cur_someJobs.j4 k a jobs b s p q) (r,p',q')∧r.length≤100∧p≤p'∧p'≤p + 120:=by
 by_cases c:b=true
 ·obtain ⟨v,p1,q1,e,h2,h3,h4,h5⟩:=pk hs p q (jobs.length:Int) hp (by omega)
  have h6:=h3 (by have:=hne c;omega)
  obtain ⟨x0,x1,x2,x3,p2,q2,e2,h7,h8⟩:=sj hs p1 q1 (rd_T31 jobs v).f0 (rd_T31 jobs v).f1 (rd_T31 jobs v).f2 (rd_T31 jobs v).f3 (by omega) (by omega)
  obtain ⟨r,p3,q3,hr,h9,h10,h11⟩:=someJobs_j5 hs a (jobs.set v.toNat ⟨x0,x1,x2,x3⟩) p2 q2 (by simpa using h1) (by omega) (by omega)
  refine ⟨r,p3,q3,ev_go _ (fun k=>?_) hr,h9,by omega,by omega⟩
  simp only [spec_l1Cur_someJobs.j4];rw [if_pos c,e,Option.bind_some,if_pos h2,if_pos h6,e2,Option.bind_some]
 ·obtain ⟨r,p3,q3,hr,h9,h10,h11⟩:=someJobs_j5 hs a jobs p q h1 (by omega) (by omega)
  refine ⟨r,p3,q3,ev_go _ (fun k=>?_) hr,h9,by omega,by omega⟩
  simp only [spec_l1Cur_someJobs.j4];rw [if_neg c]
theorem someJobs_j3 {s:List Int} (hs:ByteL s) (a:Bool) (jobs:List J) (p q:Int) (h1:jobs.length≤100) (hp:0≤p) (hb:p≤400000000000000):∃ r p' q',Ev (fun k=>spec_l1Cur_someJobs.j3 k a jobs s p q) (r,p',q')∧r.length≤100∧p≤p'∧p'≤p + 150:=by
 by_cases c:(jobs.length:Int)>0
 ·obtain ⟨b,p1,q1,e,h2,h3⟩:=on hs p q 20 hp (by omega)
  obtain ⟨r,p2,q2,hr,h4,h5,h6⟩:=someJobs_j4 hs a b jobs p1 q1 (fun _=>by omega) h1 (by omega) (by omega)
  refine ⟨r,p2,q2,ev_go _ (fun k=>?_) hr,h4,by omega,by omega⟩
  simp only [spec_l1Cur_someJobs.j3];rw [if_pos c,e,Option.bind_some]
 ·obtain ⟨r,p2,q2,hr,h4,h5,h6⟩:=someJobs_j4 hs a false jobs p q (by simp) h1 (by omega) (by omega)
  refine ⟨r,p2,q2,ev_go _ (fun k=>?_) hr,h4,by omega,by omega⟩
  simp only [spec_l1Cur_someJobs.j3];rw [if_neg c]
theorem someJobs_l0 {s:List Int} (hs:ByteL s) (a:Bool) (m:Int) (hm:m≤100):∀ (c:Nat) (n:Int) (jobs:List J) (p q:Int),n≤c→c≤1000→jobs.length≤100→0≤p→p + 8 * c≤300000000000000→∃ r p' q',Ev (fun k=>spec_l1Cur_someJobs.l0 k a m jobs n s p q) (r,p',q')∧r.length≤100∧p≤p'∧p'≤p + 8 * c + 150:=by
 intro c
 induction c with
 | zero=>
  intro n jobs p q h1 _ h2 hp hb
  obtain ⟨r,p2,q2,hr,h4,h5,h6⟩:=someJobs_j3 hs a jobs p q h2 hp (by omega)
  refine ⟨r,p2,q2,ev_go _ (fun k=>?_) hr,h4,by omega,by omega⟩
  simp only [spec_l1Cur_someJobs.l0];rw [if_neg (by omega)]
 | succ c ih=>
  intro n jobs p q h1 h3 h2 hp hb
  by_cases cn:n>0∧(jobs.length:Int)<m
  ·obtain ⟨x0,x1,x2,x3,p1,q1,e,h4,h5⟩:=jb hs p q a hp (by omega)
   obtain ⟨r,p2,q2,hr,h6,h7,h8⟩:=ih (n - 1) (jobs++[⟨x0,x1,x2,x3⟩]) p1 q1 (by omega) (by omega) (by simp;omega) (by omega) (by omega)
   refine ⟨r,p2,q2,ev_go _ (fun k=>?_) hr,h6,by omega,by omega⟩
   simp only [spec_l1Cur_someJobs.l0];rw [if_pos cn.1,if_pos cn.2,e,Option.bind_some,if_pos (by omega),wr (x:=n - 1) (by omega) (by omega)]
  ·obtain ⟨r,p2,q2,hr,h4,h5,h6⟩:=someJobs_j3 hs a jobs p q h2 hp (by omega)
   refine ⟨r,p2,q2,ev_go _ (fun k=>?_) hr,h4,by omega,by omega⟩
   simp only [spec_l1Cur_someJobs.l0]
   by_cases c1:n>0
   ·rw [if_pos c1,if_neg (fun c2=>cn ⟨c1,c2⟩)]
   ·rw [if_neg c1]
theorem spec_l1Cur_someJobs.tot {s:List Int} (hs:ByteL s) (a:Bool) (m p q:Int) (hm:m≤100) (hp:0≤p) (hb:p≤200000000000000):∃ r p' q',Ev (fun k=>spec_l1Cur_someJobs.f k s p q a m) (r,p',q')∧r.length≤100∧p≤p'∧p'≤p + 300:=by
 unfold spec_l1Cur_someJobs.f
 simp only [Option.bind_some]
 obtain ⟨v,p1,q1,e1,hv,h1,h2⟩:=am hs p q [3,4,5,2,6,1,0] (by simp) hp (by omega)
 simp only [e1,Option.bind_some]
 have hv6:v≤6:=by simp at hv;omega
 have J1:=fun (n p q:Int) (hn:n≤8) (hp:0≤p) (hb:p≤250000000000000)=>someJobs_l0 hs a m hm 8 n [] p q hn (by omega) (by simp) hp (by omega)
 by_cases c:m>6
 ·simp only [if_pos c]
  obtain ⟨b,p2,q2,e2,h3,h4⟩:=on hs p1 q1 6 (by omega) (by omega)
  simp only [e2,Option.bind_some]
  by_cases cb:b=true
  ·obtain ⟨u,p3,q3,e3,h5,h6,h7,h8⟩:=pk hs p2 q2 2 (by omega) (by omega)
   have h9:=h6 (by omega)
   obtain ⟨r,p4,q4,hr,h10,h11,h12⟩:=J1 (7 + u) p3 q3 (by omega) (by omega) (by omega)
   refine ⟨r,p4,q4,ev_go (fun k=>spec_l1Cur_someJobs.j1 k a m [] (7 + u) s p3 q3) (fun k=>?_) (ev_go _ (fun k=>by simp only [spec_l1Cur_someJobs.j1]) hr),h10,by omega,by omega⟩
   simp only [spec_l1Cur_someJobs.j0];rw [if_pos cb,e3,Option.bind_some,wr (x:=7 + u) (by omega) (by omega)]
  ·obtain ⟨r,p4,q4,hr,h10,h11,h12⟩:=J1 v p2 q2 (by omega) (by omega) (by omega)
   refine ⟨r,p4,q4,ev_go (fun k=>spec_l1Cur_someJobs.j1 k a m [] v s p2 q2) (fun k=>?_) (ev_go _ (fun k=>by simp only [spec_l1Cur_someJobs.j1]) hr),h10,by omega,by omega⟩
   simp only [spec_l1Cur_someJobs.j0];rw [if_neg cb]
 ·simp only [if_neg c]
  obtain ⟨r,p4,q4,hr,h10,h11,h12⟩:=J1 v p1 q1 (by omega) (by omega) (by omega)
  refine ⟨r,p4,q4,ev_go (fun k=>spec_l1Cur_someJobs.j1 k a m [] v s p1 q1) (fun k=>?_) (ev_go _ (fun k=>by simp only [spec_l1Cur_someJobs.j1]) hr),h10,by omega,by omega⟩
  simp only [spec_l1Cur_someJobs.j0];rw [if_neg (by simp)]

def sumD:List J→Int
 | []=>0
 | x::xs=>x.f0 + sumD xs
theorem sumD_in:∀ (l:List J),(∀ j ∈ l,1≤j.f0∧j.f0≤50)→0≤sumD l∧sumD l≤50 * (l.length:Int)
 | [],_=>by simp [sumD]
 | x::xs,h=>by
  have h1:=h x List.mem_cons_self
  have h2:=sumD_in xs (fun j hj=>h j (List.mem_cons_of_mem _ hj))
  simp only [sumD,List.length_cons];omega
theorem spec_l2Times.ev (jobs:List J) (hj:JobsOk jobs):Ev (fun k=>spec_l2Times.f k jobs) (sumD jobs):=by
 have h8:=hj.1
 have key:=rev_ind (P:=fun i=>∀ s:Int,0≤s→s≤50 * (i:Int)→Ev (fun k=>spec_l2Times.l0 k jobs s (i:Int)) (s + sumD (jobs.drop i))) jobs.length ?_ ?_ 0 (Nat.zero_le _) 0 (by omega) (by omega)
 ·simpa [spec_l2Times.f] using key
 ·intro s _ _
  refine ev_stop fun k=>?_
  simp only [spec_l2Times.l0];rw [if_neg (by omega),List.drop_length,sumD,Int.add_zero]
 ·intro i hi ih s h0 h1
  have ht:=(hj.2 _ (List.getElem_mem hi)).1
  rw [drop_cons hi,sumD,←Int.add_assoc]
  refine ev_go _ (fun k=>?_) (ih (s + jobs[i].f0) (by omega) (by omega))
  simp only [spec_l2Times.l0];rw [if_pos (by omega),if_pos (by omega),rdJ hi,wr (x:=s + jobs[i].f0) (by omega) (by omega),wr1 (by omega)]
theorem impl_totalOf.ev (jobs:List J) (hj:JobsOk jobs):Ev (fun k=>impl_totalOf.f k jobs) (sumD jobs):=by
 have h8:=hj.1
 have key:=rev_ind (P:=fun i=>∀ s:Int,0≤s→s≤50 * (i:Int)→Ev (fun k=>impl_totalOf.l0 k s jobs (jobs.length:Int) (i:Int)) (s + sumD (jobs.drop i))) jobs.length ?_ ?_ 0 (Nat.zero_le _) 0 (by omega) (by omega)
 ·simpa [impl_totalOf.f] using key
 ·intro s _ _
  refine ev_stop fun k=>?_
  simp only [impl_totalOf.l0];rw [if_neg (by omega),List.drop_length,sumD,Int.add_zero]
 ·intro i hi ih s h0 h1
  have ht:=(hj.2 _ (List.getElem_mem hi)).1
  rw [drop_cons hi,sumD,←Int.add_assoc]
  refine ev_go _ (fun k=>?_) (ih (s + jobs[i].f0) (by omega) (by omega))
  simp only [impl_totalOf.l0];rw [if_pos (by omega),if_pos (by omega),if_pos (by omega),rdJ hi,wr (x:=s + jobs[i].f0) (by omega) (by omega),wr1 (by omega)]

theorem perms_all:∀ (n:Nat) (L l:List Int),L.length=n→L.Nodup→l.Perm L→l ∈ perms n L
 | 0,L,l,hL,_,hp=>by
  obtain rfl:=List.eq_nil_of_length_eq_zero hL
  have:=hp.eq_nil
  subst this
  simp [perms]
 | n + 1,L,l,hL,hn,hp=>by
  have hlen:=hp.length_eq
  cases l with
  | nil=>simp at hlen;omega
  | cons x t=>
   have hx:x ∈ L:=hp.subset List.mem_cons_self
   have ht:t.Perm (L.erase x):=by
    have h2:=hp.erase x
    rwa [List.erase_cons_head] at h2
   have:=perms_all n (L.erase x) t (by rw [List.length_erase_of_mem hx];omega) (hn.erase x) ht
   show x::t ∈ L.flatMap fun x=>(perms n (L.erase x)).map fun l=>x::l
   exact List.mem_flatMap.2 ⟨x,hx,List.mem_map.2 ⟨t,this,rfl⟩⟩
theorem count_nodup:∀ {l:List Int},l.Nodup→∀ a,l.count a=if a ∈ l then 1 else 0
 | [],_,a=>by simp
 | b::l,h,a=>by
  have h':=List.nodup_cons.1 h
  rw [List.count_cons,count_nodup h'.2]
  by_cases e:b=a
  ·subst e
   simp [h'.1]
  ·have e':¬ a=b:=fun h2=>e h2.symm
   simp [e,e']
theorem isPerm_perms {n:Nat} {l:List Int} (h:IsPerm n l):l ∈ perms n (nums_to n):=by
 refine perms_all n _ l (nums_to_length n) (nums_to_nodup n) ?_
 have h1:l.Perm (nums_to n):=by
  rw [List.perm_iff_count]
  intro a
  have c1:=count_nodup h.2.1 a
  have c2:=count_nodup (nums_to_nodup n) a
  rw [c1,c2]
  have:a ∈ l ↔ a ∈ nums_to n:=⟨fun h2=>mem_nums_to.2 (h.2.2 a h2),fun h2=>h.all a (mem_nums_to.1 h2).1 (mem_nums_to.1 h2).2⟩
  simp [this]
 exact h1

theorem endsF_le (jobs:List J) (hj:∀ j ∈ jobs,0≤j.f0∧j.f0≤50∧0≤j.f2∧j.f2≤500):∀ (l out:List Int) (now B:Int),0≤now→now≤B→500≤B→B + 50 * (l.length:Int)≤1000000000→(∀ x ∈ l,0≤x∧x<jobs.length)→(∀ e ∈ out,e≤B)→∀ e ∈ endsF jobs l out now,e≤B + 50 * (l.length:Int)
 | [],_,_,_,_,_,_,_,_,h=>fun e he=>by have:=h e he;simp;omega
 | x::xs,out,now,B,h0,h1,h2,h3,hx,ho=>by
  simp only [List.length_cons] at h3
  have hx0:=hx x List.mem_cons_self
  have hr:=rdJ_int hx0.1 hx0.2
  have hk:=hj _ (List.getElem_mem (show x.toNat<jobs.length by omega))
  rw [←hr] at hk
  have hm:0≤mx now (rd_T31 jobs x).f2∧mx now (rd_T31 jobs x).f2≤B:=by unfold mx;split <;> omega
  have hw:wrap64 (mx now (rd_T31 jobs x).f2 + (rd_T31 jobs x).f0)=mx now (rd_T31 jobs x).f2 + (rd_T31 jobs x).f0:=wr (by omega) (by omega)
  rw [endsF,hw]
  intro e he
  have:=endsF_le jobs hj xs _ _ (B + 50) (by omega) (by omega) (by omega) (by omega) (fun y hy=>hx y (List.mem_cons_of_mem _ hy)) (fun e he=>by
   rcases List.mem_or_eq_of_mem_set he with he|rfl
   ·have:=ho e he;omega
   ·omega) e he
  simp only [List.length_cons];omega
theorem endsAll_le (jobs:List J) (l:List Int) (h:TwoOk jobs l):∀ e ∈ endsAll jobs l,e≤900:=by
 have h8:=h.1.1
 have hl:=h.2.1
 intro e he
 have:=endsF_le jobs (fun j hj=>by have:=h.1.2 j hj;unfold JobOk at this;omega) l _ 0 500 (by omega) (by omega) (by omega) (by omega) h.2.2.2 (fun e he=>by rw [(List.mem_replicate.1 he).2];omega) e he
 omega

/-- Orders from their end: the sum of times, the sum of ends, no lateness above a limit. -/
def totL (p:Int→Int):List Int→Int
 | []=>0
 | x::r=>p x + totL p r
def sumR (p:Int→Int):List Int→Int
 | []=>0
 | x::r=>totL p (x::r) + sumR p r
def feasR (p d:Int→Int) (L:Int):List Int→Prop
 | []=>True
 | x::r=>totL p (x::r)≤d x + L∧feasR p d L r
theorem totL_perm (p:Int→Int) {a b:List Int} (h:a.Perm b):totL p a=totL p b:=by
 induction h with
 | nil=>rfl
 | cons x _ ih=>simp only [totL,ih]
 | swap x y l=>simp only [totL];omega
 | trans _ _ i1 i2=>exact i1.trans i2
theorem totL_app (p:Int→Int):∀ (M A:List Int),totL p (M++A)=totL p M + totL p A
 | [],A=>by simp [totL]
 | x::M,A=>by rw [List.cons_append,totL,totL,totL_app p M A];omega
theorem totL_nonneg {p:Int→Int} (hp:∀ x,0≤p x):∀ l,0≤totL p l
 | []=>Int.le_refl _
 | x::l=>by rw [totL];have:=hp x;have:=totL_nonneg hp l;omega
theorem totL_le {p:Int→Int} {B:Int} (hp:∀ x,p x≤B):∀ l:List Int,totL p l≤B * (l.length:Int)
 | []=>by simp [totL]
 | x::l=>by rw [totL,List.length_cons];have:=hp x;have:=totL_le hp l;rw [Int.natCast_add,Int.mul_add];omega
theorem feasR_swap {p d:Int→Int} {L:Int} {l b:Int} {A:List Int} (hlb:p l≤p b) (hl:totL p (l::A)≤d l + L):∀ M,feasR p d L (M++b::A)→feasR p d L (M++l::A)∧sumR p (M++l::A)≤sumR p (M++b::A)
 | [],h=>⟨⟨hl,h.2⟩,by simp only [List.nil_append,sumR,totL];omega⟩
 | x::M,h=>by
  have ih:=feasR_swap hlb hl M h.2
  have e:totL p (x::(M++l::A))≤totL p (x::(M++b::A)):=by simp only [totL,totL_app];omega
  have h1:totL p (x::(M++b::A))≤d x + L:=h.1
  refine ⟨⟨?_,ih.1⟩,?_⟩
  ·show totL p (x::(M++l::A))≤d x + L
   omega
  ·show totL p (x::(M++l::A)) + sumR p (M++l::A)≤totL p (x::(M++b::A)) + sumR p (M++b::A)
   omega
theorem exchR {p d:Int→Int} {L:Int} (hp:∀ x,0≤p x) {r:List Int} {b:Int} (hb:b ∈ r) (hm:∀ y ∈ r,totL p r≤d y + L→p y≤p b) (hf:feasR p d L r):∃ r',(b::r').Perm r∧feasR p d L r'∧totL p r + sumR p r'≤sumR p r:=by
 cases r with
 | nil=>simp at hb
 | cons l t=>
  by_cases e:b=l
  ·subst e
   exact ⟨t,List.Perm.refl _,hf.2,Int.le_refl _⟩
  ·have hbt:b ∈ t:=by rcases List.mem_cons.1 hb with h|h;exact absurd h e;exact h
   obtain ⟨M,A,rfl⟩:=List.append_of_mem hbt
   have hl:=hm l List.mem_cons_self hf.1
   have h1:totL p (l::(M++b::A))≤d l + L:=hf.1
   have hl2:totL p (l::A)≤d l + L:=by
    simp only [totL,totL_app] at h1 ⊢
    have:=totL_nonneg hp M
    have:=hp b
    omega
   have h2:=feasR_swap hl hl2 M hf.2
   refine ⟨M++l::A,?_,h2.1,?_⟩
   ·have p1:(b::(M++l::A)).Perm (b::l::(M++A)):=List.Perm.cons _ List.perm_middle
    have p2:(l::(M++b::A)).Perm (l::b::(M++A)):=List.Perm.cons _ List.perm_middle
    exact (p1.trans (List.Perm.swap _ _ _)).trans p2.symm
   ·show totL p (l::(M++b::A)) + sumR p (M++l::A)≤totL p (l::(M++b::A)) + sumR p (M++b::A)
    omega
/-- Orders from their start. -/
def sumC (p:Int→Int):List Int→Int→Int
 | [],_=>0
 | x::l,t=>(t + p x) + sumC p l (t + p x)
def feasF (p d:Int→Int) (L:Int):List Int→Int→Prop
 | [],_=>True
 | x::l,t=>t + p x≤d x + L∧feasF p d L l (t + p x)
theorem sumC_snoc (p:Int→Int) (x:Int):∀ l t,sumC p (l++[x]) t=sumC p l t + (t + totL p l + p x)
 | [],t=>by simp only [List.nil_append,sumC,totL];omega
 | y::l,t=>by rw [List.cons_append,sumC,sumC,totL,sumC_snoc p x l];omega
theorem feasF_snoc (p d:Int→Int) (L:Int) (x:Int):∀ l t,feasF p d L (l++[x]) t ↔ feasF p d L l t∧t + totL p l + p x≤d x + L
 | [],t=>by simp only [List.nil_append,feasF,totL];constructor <;> intro h <;> simp at h ⊢ <;> omega
 | y::l,t=>by
  rw [List.cons_append,feasF,feasF,totL,feasF_snoc p d L x l]
  constructor
  ·rintro ⟨h1,h2,h3⟩;exact ⟨⟨h1,h2⟩,by omega⟩
  ·rintro ⟨⟨h1,h2⟩,h3⟩;exact ⟨h1,h2,by omega⟩
theorem rev_sum (p:Int→Int):∀ r:List Int,sumC p r.reverse 0=sumR p r
 | []=>rfl
 | x::r=>by rw [List.reverse_cons,sumC_snoc,rev_sum p r,sumR,totL_perm p (List.reverse_perm r),totL];omega
theorem rev_feas (p d:Int→Int) (L:Int):∀ r:List Int,feasF p d L r.reverse 0 ↔ feasR p d L r
 | []=>Iff.rfl
 | x::r=>by
  rw [List.reverse_cons,feasF_snoc,rev_feas p d L r,feasR,totL_perm p (List.reverse_perm r),totL]
  constructor
  ·rintro ⟨h1,h2⟩;exact ⟨by omega,h1⟩
  ·rintro ⟨h1,h2⟩;exact ⟨h2,by omega⟩
theorem sum_set0:∀ (l:List Int) (i:Nat) (v:Int),l[i]?=some 0→(l.set i v).sum=l.sum + v
 | [],_,_,h=>by simp at h
 | a::l,0,v,h=>by simp at h;subst h;simp;omega
 | a::l,i + 1,v,h=>by simp at h;simp [sum_set0 l i v h];omega
theorem feasF_mono {p d:Int→Int} {L:Int} : ∀ (l:List Int) (t t':Int),t≤t'→feasF p d L l t'→feasF p d L l t
 | [],_,_,_,_=>trivial
 | x::l,t,t',h,hf=>⟨by have:=hf.1;omega,feasF_mono l _ _ (by omega) hf.2⟩
theorem feasF_swap {p d:Int→Int} {L:Int} (hp:∀ x,0≤p x) {a b:Int} (hd:d b≤d a) (suf:List Int):∀ (pre:List Int) (t:Int),feasF p d L (pre++a::b::suf) t→feasF p d L (pre++b::a::suf) t
 | [],t,h=>by
  obtain ⟨h1,h2,h3⟩:=h
  have pa:=hp a
  have pb:=hp b
  exact ⟨by omega,by omega,feasF_mono suf _ _ (by omega) h3⟩
 | x::pre,t,h=>⟨h.1,feasF_swap hp hd suf pre _ h.2⟩

def pT (jobs:List J) (x:Int):Int:=(rd_T31 jobs x).f0
def dT (jobs:List J) (x:Int):Int:=(rd_T31 jobs x).f3
theorem rdJ_any (jobs:List J) (x:Int):rd_T31 jobs x ∈ jobs∨rd_T31 jobs x=z31:=by
 unfold rd_T31
 rw [List.getD_eq_getElem?_getD]
 cases h:jobs[x.toNat]? with
 | none=>right;rfl
 | some q=>left;exact List.mem_of_getElem? h
theorem pT_bd {jobs:List J} (hj:PlainOk jobs) (x:Int):0≤pT jobs x∧pT jobs x≤50:=by
 unfold pT
 rcases rdJ_any jobs x with h|h
 ·have:=hj.1.2 _ h;unfold JobOk at this;omega
 ·rw [h];exact ⟨by decide,by decide⟩
theorem dT_bd {jobs:List J} (hj:PlainOk jobs) (x:Int):0≤dT jobs x∧dT jobs x≤500:=by
 unfold dT
 rcases rdJ_any jobs x with h|h
 ·have:=hj.1.2 _ h;unfold JobOk at this;omega
 ·rw [h];exact ⟨by decide,by decide⟩
theorem rel0 {jobs:List J} (hj:PlainOk jobs) (x:Int):(rd_T31 jobs x).f2=0:=by
 rcases rdJ_any jobs x with h|h
 ·exact hj.2 _ h
 ·rw [h];decide
theorem endsF_keep (jobs:List J) (i:Nat):∀ (l out:List Int) (now:Int),(∀ x ∈ l,x.toNat≠i)→(endsF jobs l out now)[i]?=out[i]?
 | [],_,_,_=>rfl
 | x::l,out,now,h=>by
  rw [endsF,endsF_keep jobs i l _ _ (fun y hy=>h y (List.mem_cons_of_mem _ hy)),List.getElem?_set_ne (h x List.mem_cons_self)]
theorem endsF_facts {jobs:List J} (hj:PlainOk jobs) (L:Int):∀ (l out:List Int) (now:Int),0≤now→now + 50 * (l.length:Int)≤100000→(∀ x ∈ l,0≤x∧x<jobs.length)→l.Nodup→out.length=jobs.length→(∀ x ∈ l,out[x.toNat]?=some 0)→(endsF jobs l out now).sum=out.sum + sumC (pT jobs) l now∧((∀ x ∈ l,∀ e,(endsF jobs l out now)[x.toNat]?=some e→e≤dT jobs x + L) ↔ feasF (pT jobs) (dT jobs) L l now)
 | [],out,now,_,_,_,_,_,_=>by simp [endsF,sumC,feasF]
 | x::l,out,now,h0,h1,hx,hn,hlen,hz=>by
  have hn':=List.nodup_cons.1 hn
  have hb:=pT_bd hj x
  have hx0:=hx x List.mem_cons_self
  simp only [List.length_cons] at h1
  have hw:wrap64 (mx now (rd_T31 jobs x).f2 + (rd_T31 jobs x).f0)=now + pT jobs x:=by
   rw [rel0 hj x,show mx now 0=now by unfold mx;split <;> omega]
   exact wr (by unfold pT at hb;omega) (by unfold pT at hb;omega)
  have hne:∀ y ∈ l,y.toNat≠x.toNat:=fun y hy e=>by
   have:=hx y (List.mem_cons_of_mem _ hy)
   exact hn'.1 (by rw [show x=y by omega];exact hy)
  have ih:=endsF_facts hj L l (out.set x.toNat (now + pT jobs x)) (now + pT jobs x) (by omega) (by omega) (fun y hy=>hx y (List.mem_cons_of_mem _ hy)) hn'.2 (by simpa using hlen) (fun y hy=>by rw [List.getElem?_set_ne (fun e=>hne y hy e.symm)];exact hz y (List.mem_cons_of_mem _ hy))
  rw [endsF,hw,sumC,feasF]
  refine ⟨?_,?_⟩
  ·rw [ih.1,sum_set0 _ _ _ (hz x List.mem_cons_self)];omega
  ·have hk:(endsF jobs l (out.set x.toNat (now + pT jobs x)) (now + pT jobs x))[x.toNat]?=some (now + pT jobs x):=by
    rw [endsF_keep jobs x.toNat l _ _ hne,List.getElem?_set_self (by omega)]
   rw [←ih.2]
   constructor
   ·intro h
    exact ⟨h x List.mem_cons_self _ hk,fun y hy e he=>h y (List.mem_cons_of_mem _ hy) e he⟩
   ·rintro ⟨h2,h3⟩ y hy e he
    rcases List.mem_cons.1 hy with rfl|hy
    ·rw [hk] at he;injection he with he;omega
    ·exact h3 y hy e he
theorem valF_sum (jobs:List J) (ends:List Int) (hb:∀ e ∈ ends,0≤e∧e≤900):∀ (n i:Nat) (s:Int),i + n=ends.length→0≤s→s + 900 * (n:Int)≤1000000000→valF jobs ends 2 n i s=s + (ends.drop i).sum
 | 0,i,s,h,_,_=>by rw [valF,List.drop_of_length_le (by omega)];simp
 | n + 1,i,s,h,h0,h1=>by
  have hi:i<ends.length:=by omega
  have he:=hb _ (List.getElem_mem hi)
  rw [valF,rd_nat hi,drop_cons hi,List.sum_cons]
  have ha:addF s (rd_T31 jobs (i:Int)) ends[i] 2 (decide (i=0))=s + ends[i]:=by
   unfold addF
   rw [if_neg (by omega),if_pos rfl,wr (by omega) (by omega)]
  rw [ha,valF_sum jobs ends hb n (i + 1) _ (by omega) (by omega) (by omega)]
  omega
theorem addF_late (s:Int) (j:J) (e:Int) (b:Bool) (he:0≤e∧e≤900) (hj:0≤j.f3∧j.f3≤500):addF s j e 4 b=if b=true then e - j.f3 else mx s (e - j.f3):=by
 unfold addF
 rw [if_neg (by omega),if_neg (by omega),if_neg (by omega),if_pos rfl,wr (x:=e - j.f3) (by omega) (by omega)]
theorem mx_le {a b L:Int} : mx a b≤L ↔ a≤L∧b≤L:=by unfold mx;split <;> omega
theorem valF_late {jobs:List J} (hj:PlainOk jobs) (ends:List Int) (hl:ends.length=jobs.length) (hb:∀ e ∈ ends,0≤e∧e≤900) (L:Int):∀ (n i:Nat) (s:Int),0<i→i + n=jobs.length→(valF jobs ends 4 n i s≤L ↔ s≤L∧∀ j,i≤j→j<jobs.length→rd ends (j:Int)≤dT jobs (j:Int) + L)
 | 0,i,s,_,h=>by
  rw [valF]
  exact ⟨fun h1=>⟨h1,fun j h2 h3=>by omega⟩,fun h1=>h1.1⟩
 | n + 1,i,s,h0,h=>by
  have hi:i<ends.length:=by omega
  have he:=hb _ (List.getElem_mem hi)
  have hd:=dT_bd hj (i:Int)
  have hr:=rd_nat hi
  rw [valF,addF_late _ _ _ _ (by rw [hr];exact he) hd,if_neg (by simp;omega),valF_late hj ends hl hb L n (i + 1) _ (by omega) (by omega),mx_le]
  constructor
  ·rintro ⟨⟨h1,h2⟩,h3⟩
   refine ⟨h1,fun j hj1 hj2=>?_⟩
   by_cases e:j=i
   ·subst e;unfold dT;omega
   ·exact h3 j (by omega) hj2
  ·rintro ⟨h1,h2⟩
   refine ⟨⟨h1,?_⟩,fun j hj1 hj2=>h2 j (by omega) hj2⟩
   have:=h2 i (Nat.le_refl _) (by omega)
   unfold dT at this;omega
theorem pt_late {jobs:List J} (hj:PlainOk jobs) {l:List Int} (hl:IsPerm jobs.length l):(pointF jobs 2 4 l).1=sumR (pT jobs) l.reverse∧(0<jobs.length→∀ L,(pointF jobs 2 4 l).2≤L ↔ feasR (pT jobs) (dT jobs) L l.reverse):=by
 have h8:=hj.1.1
 have ht:TwoOk jobs l:=⟨hj.1,hl⟩
 have hlen:=endsAll_len jobs l
 have hz:∀ x ∈ l,(List.replicate jobs.length (0:Int))[x.toNat]?=some 0:=fun x hx=>by
  have:=hl.2.2 x hx
  rw [List.getElem?_replicate,if_pos (by omega)]
 have facts:=fun L=>endsF_facts hj L l (List.replicate jobs.length 0) 0 (by omega) (by have:=hl.1;omega) hl.2.2 hl.2.1 (by simp) hz
 have hb:∀ e ∈ endsAll jobs l,0≤e∧e≤900:=fun e hm=>⟨endsAll_nonneg jobs l ht e hm,endsAll_le jobs l ht e hm⟩
 refine ⟨?_,fun hn L=>?_⟩
 ·show valF jobs (endsAll jobs l) 2 jobs.length 0 0=_
  rw [valF_sum jobs _ hb _ _ _ (by omega) (by omega) (by omega),List.drop_zero,←rev_sum,List.reverse_reverse]
  have:=(facts 0).1
  rw [show (List.replicate jobs.length (0:Int)).sum=0 by simp] at this
  rw [endsAll,this];omega
 ·show valF jobs (endsAll jobs l) 4 jobs.length 0 0≤L ↔ _
  rw [←rev_feas,List.reverse_reverse,←(facts L).2]
  obtain ⟨n,hn'⟩:∃ n,jobs.length=n + 1:=⟨jobs.length - 1,by omega⟩
  have h0:0<(endsAll jobs l).length:=by omega
  have hd:=dT_bd hj ((0:Nat):Int)
  have e0:valF jobs (endsAll jobs l) 4 jobs.length 0 0=valF jobs (endsAll jobs l) 4 n 1 (rd (endsAll jobs l) ((0:Nat):Int) - dT jobs ((0:Nat):Int)):=by
   rw [hn',valF,addF_late _ _ _ _ (by rw [rd_nat h0];exact hb _ (List.getElem_mem h0)) hd,if_pos (by simp)]
   rfl
  rw [e0,valF_late hj _ hlen hb L n 1 _ (by omega) (by omega)]
  constructor
  ·rintro ⟨h1,h2⟩ x hx e he
   have hx2:=hl.2.2 x hx
   have he':(endsAll jobs l)[x.toNat]?=some e:=he
   have hr:rd (endsAll jobs l) ((x.toNat:Nat):Int)=e:=by
    have hlt:x.toNat<(endsAll jobs l).length:=by omega
    rw [rd_nat hlt]
    rw [List.getElem?_eq_getElem hlt] at he'
    exact Option.some.inj he'
   have hxx:((x.toNat:Nat):Int)=x:=by omega
   by_cases e0:x.toNat=0
   ·rw [e0] at hr
    have:x=((0:Nat):Int):=by omega
    rw [this];omega
   ·have:=h2 x.toNat (by omega) (by omega)
    rw [hr,hxx] at this;exact this
  ·intro h
   have at_:∀ j,j<jobs.length→rd (endsAll jobs l) (j:Int)≤dT jobs (j:Int) + L:=fun j hjl=>by
    have hm:=hl.all (j:Int) (by omega) (by omega)
    have hlt:j<(endsAll jobs l).length:=by omega
    rw [rd_nat hlt]
    exact h (j:Int) hm _ (by rw [Int.toNat_natCast];exact List.getElem?_eq_getElem hlt)
   refine ⟨by have:=at_ 0 hn;omega,fun j _ h2=>at_ j h2⟩

/-- Moving what may stand ahead costs nothing, so what is sorted is best. -/
theorem sorted_best {lt:Int→Int→Bool} {V:List Int→Int} {G:List Int→Prop} (hG:∀ l l':List Int,l.Perm l'→G l→G l')
  (hsw:∀ pre a b suf,G (pre++a::b::suf)→lt a b=false→V (pre++b::a::suf)≤V (pre++a::b::suf)) :
  ∀ (s pre l:List Int),SortedLt lt s→l.Perm s→G (pre++l)→V (pre++s)≤V (pre++l)
 | [],pre,l,_,hl,_=>by rw [hl.eq_nil];exact Int.le_refl _
 | x::s,pre,l,hs,hl,hg=>by
  obtain ⟨A,B,rfl⟩:=List.append_of_mem (hl.mem_iff.2 List.mem_cons_self)
  have hs':=List.pairwise_cons.1 hs
  have hAB:(A++B).Perm s:=(List.perm_cons x).1 ((List.perm_middle (l₁:=A) (l₂:=B) (a:=x)).symm.trans hl)
  have front:∀ (n:Nat) (A B:List Int),A.length=n→G (pre++(A++x::B))→(∀ a ∈ A,lt a x=false)→V (pre++x::(A++B))≤V (pre++(A++x::B)):=by
   intro n
   induction n with
   | zero=>intro A B h _ _;rw [List.eq_nil_of_length_eq_zero h];exact Int.le_refl _
   | succ n ih=>
    intro A B h hg ha
    have hne:A≠[]:=fun e=>by rw [e] at h;simp at h
    obtain ⟨A',a,rfl⟩:∃ A' a,A=A'++[a]:=⟨A.dropLast,A.getLast hne,(List.dropLast_concat_getLast hne).symm⟩
    have e1:pre++(A'++[a]++x::B)=(pre++A')++a::x::B:=by simp
    have e2:pre++(A'++x::(a::B))=(pre++A')++x::a::B:=by simp
    have h1:=hsw (pre++A') a x B (by rw [←e1];exact hg) (ha a (by simp))
    have h2:=ih A' (a::B) (by simp at h;exact h) (by
     refine hG _ _ ?_ hg
     rw [e1,e2]
     exact List.Perm.append_left _ (List.Perm.swap _ _ _)) (fun b hb=>ha b (by simp [hb]))
    rw [e1]
    rw [e2] at h2
    have e3:pre++x::(A'++[a]++B)=pre++x::(A'++a::B):=by simp
    rw [e3];omega
  have h1:=front A.length A B rfl hg (fun a ha=>hs'.1 a (hAB.mem_iff.1 (List.mem_append.2 (.inl ha))))
  have h2:=sorted_best hG hsw s (pre++[x]) (A++B) hs'.2 hAB (by
   refine hG _ _ ?_ hg
   rw [List.append_assoc]
   exact List.Perm.append_left _ List.perm_middle)
  have e:∀ l,pre++[x]++l=pre++x::l:=fun l=>by simp
  rw [e,e] at h2
  omega
/-- sorted, or two neighbors that aren't -/
theorem sorted_or {lt:Int→Int→Bool} {P:Int→Prop} (hp:Pre lt P):∀ l:List Int,(∀ z ∈ l,P z)→SortedLt lt l∨∃ pre a b suf,l=pre++a::b::suf∧lt b a=true
 | [],_=>.inl List.Pairwise.nil
 | [x],_=>.inl (List.pairwise_singleton _ _)
 | x::y::l,h=>by
  cases c:lt y x with
  | true=>exact .inr ⟨[],x,y,l,rfl,c⟩
  | false=>
   rcases sorted_or hp (y::l) (fun z hz=>h z (List.mem_cons_of_mem _ hz)) with hs | ⟨pre,a,b,suf,e,hab⟩
   ·left
    refine List.pairwise_cons.2 ⟨fun z hz=>?_,hs⟩
    rcases List.mem_cons.1 hz with rfl|hz'
    ·exact c
    ·exact hp.trans x y z (h x List.mem_cons_self) (h y (by simp)) (h z (by simp [hz'])) c ((List.pairwise_cons.1 hs).1 z hz')
   ·exact .inr ⟨x::pre,a,b,suf,by rw [e];rfl,hab⟩
/-- Best is what is sorted, where an exchange of what isn't gains. -/
theorem best_sorted {lt:Int→Int→Bool} {P:Int→Prop} (hp:Pre lt P) {V:List Int→Int} {G:List Int→Prop}
  (hst:∀ pre a b suf,G (pre++a::b::suf)→lt b a=true→V (pre++b::a::suf)<V (pre++a::b::suf)) {l:List Int} (hg:G l) (hP:∀ z ∈ l,P z) (hb:∀ l',l'.Perm l→V l≤V l'):SortedLt lt l:=by
 rcases sorted_or hp l hP with h | ⟨pre,a,b,suf,rfl,hab⟩
 ·exact h
 ·have h1:=hst pre a b suf hg hab
  have h2:=hb (pre++b::a::suf) (List.Perm.append_left _ (List.Perm.swap _ _ _))
  omega

/-- j + 1, .., j + c multiplied -/
def risF:Nat→Nat→Nat
 | _,0=>1
 | j,c + 1=>(j + 1) * risF (j + 1) c
theorem risF_snoc:∀ c j,risF j (c + 1)=risF j c * (j + c + 1)
 | 0,j=>by simp [risF]
 | c + 1,j=>by
  rw [risF,risF_snoc c (j + 1),risF,Nat.mul_assoc,show j + 1 + c + 1=j + (c + 1) + 1 by omega]
def facN (n:Nat):Nat:=risF 0 n
theorem facN_succ (n:Nat):facN (n + 1)=(n + 1) * facN n:=by unfold facN;rw [risF_snoc,Nat.mul_comm,Nat.zero_add]
theorem facN_le:∀ n,n≤8→facN n≤40320:=by decide
def stepB (V:List Int→Int) (l:List Int) (s:List Int × Int × Int):List Int × Int × Int:=if s.2.2=0∨V l<s.2.1 then (l,V l,1) else if V l=s.2.1 then (s.1,s.2.1,wrap64 (s.2.2 + 1)) else s
def foldB (V:List Int→Int) (P:List (List Int)):List Int × Int × Int:=P.foldl (fun s l=>stepB V l s) ([],0,0)
theorem bst_fold (V:List Int→Int):∀ (P:List (List Int)) (s:List Int × Int × Int) (c:Nat),s.2.2=(c:Int)→0<c→c + P.length≤1000000000→
  ∃ m:Int,(P.foldl (fun s l=>stepB V l s) s).2.1=m∧m≤s.2.1∧(∀ l ∈ P,m≤V l)∧(m=s.2.1∨∃ l ∈ P,V l=m)∧(P.foldl (fun s l=>stepB V l s) s).2.2=(((if m=s.2.1 then c else 0) + P.countP (fun l=>decide (V l=m)):Nat):Int)
 | [],s,c,hc,h0,h1=>⟨s.2.1,rfl,Int.le_refl _,(fun l hl=>by cases hl),.inl rfl,by simp [hc]⟩
 | l::P,s,c,hc,h0,h1=>by
  rw [List.length_cons] at h1
  rw [List.foldl_cons]
  by_cases c1:V l<s.2.1
  ·have e:stepB V l s=(l,V l,1):=by unfold stepB;rw [if_pos (.inr c1)]
   rw [e]
   obtain ⟨m,h2,h3,h4,h5,h6⟩:=bst_fold V P (l,V l,1) 1 rfl (by omega) (by omega)
   have h3':m≤V l:=h3
   refine ⟨m,h2,by omega,fun l' hl'=>?_,.inr ?_,?_⟩
   ·rcases List.mem_cons.1 hl' with rfl|hl'
    ·exact h3'
    ·exact h4 l' hl'
   ·rcases h5 with h5 | ⟨l',hl',h5⟩
    ·exact ⟨l,List.mem_cons_self,h5.symm⟩
    ·exact ⟨l',List.mem_cons_of_mem _ hl',h5⟩
   ·rw [h6,List.countP_cons,if_neg (show ¬ m=s.2.1 by omega)]
    have e2:(m=(l,V l,(1:Int)).2.1)=(V l=m):=propext ⟨fun h=>h.symm,fun h=>h.symm⟩
    simp only [e2,decide_eq_true_eq];omega
  ·by_cases c2:V l=s.2.1
   ·have e:stepB V l s=(s.1,s.2.1,((c + 1:Nat):Int)):=by
     unfold stepB;rw [if_neg (by intro h;rcases h with h|h;omega;exact c1 h),if_pos c2,hc,wr (by omega) (by omega)];rfl
    rw [e]
    obtain ⟨m,h2,h3,h4,h5,h6⟩:=bst_fold V P (s.1,s.2.1,((c + 1:Nat):Int)) (c + 1) rfl (by omega) (by omega)
    have h3':m≤s.2.1:=h3
    refine ⟨m,h2,h3',fun l' hl'=>?_,?_,?_⟩
    ·rcases List.mem_cons.1 hl' with rfl|hl'
     ·omega
     ·exact h4 l' hl'
    ·rcases h5 with h5 | ⟨l',hl',h5⟩
     ·exact .inl h5
     ·exact .inr ⟨l',List.mem_cons_of_mem _ hl',h5⟩
    ·rw [h6,List.countP_cons,c2]
     have e2:(m=(s.1,s.2.1,((c + 1:Nat):Int)).2.1)=(m=s.2.1):=rfl
     simp only [e2,decide_eq_true_eq]
     by_cases q:m=s.2.1
     ·rw [if_pos q,if_pos q,if_pos q.symm];omega
     ·rw [if_neg q,if_neg q,if_neg (fun h=>q h.symm)];omega
   ·have e:stepB V l s=s:=by unfold stepB;rw [if_neg (by intro h;rcases h with h|h;omega;exact c1 h),if_neg c2]
    rw [e]
    obtain ⟨m,h2,h3,h4,h5,h6⟩:=bst_fold V P s c hc h0 (by omega)
    refine ⟨m,h2,h3,fun l' hl'=>?_,?_,?_⟩
    ·rcases List.mem_cons.1 hl' with rfl|hl'
     ·omega
     ·exact h4 l' hl'
    ·rcases h5 with h5 | ⟨l',hl',h5⟩
     ·exact .inl h5
     ·exact .inr ⟨l',List.mem_cons_of_mem _ hl',h5⟩
    ·rw [h6,List.countP_cons]
     rw [decide_eq_false (show ¬ V l=m by omega)];simp
theorem sum_const {α:Type} (g:α→Nat) (c:Nat):∀ l:List α,(∀ x ∈ l,g x=c)→(l.map g).sum=l.length * c
 | [],_=>by simp
 | x::l,h=>by
  rw [List.map_cons,List.sum_cons,sum_const g c l (fun y hy=>h y (List.mem_cons_of_mem _ hy)),h x List.mem_cons_self,List.length_cons,Nat.add_mul];omega
theorem perms_len:∀ (n:Nat) (L:List Int),L.length=n→(perms n L).length=facN n
 | 0,L,_=>by simp [perms,facN,risF]
 | n + 1,L,h=>by
  rw [perms,List.length_flatMap,sum_const _ (facN n) L (fun x hx=>by rw [List.length_map];exact perms_len n (L.erase x) (by rw [List.length_erase_of_mem hx];omega)),h,facN_succ]
theorem perms_any (n:Nat):perms n (nums_to n)≠[]:=by
 have:=isPerm_perms (l:=nums_to n) (n:=n) ⟨nums_to_length n,nums_to_nodup n,fun x hx=>mem_nums_to.1 hx⟩
 intro h;rw [h] at this;cases this
/-- how many orders are best, and the least value -/
theorem bst_count {V:List Int→Int} {n:Nat} (hn:n≤8):∃ m:Int,(foldB V (perms n (nums_to n))).2.1=m∧(∀ l ∈ perms n (nums_to n),m≤V l)∧(∃ l ∈ perms n (nums_to n),V l=m)∧(foldB V (perms n (nums_to n))).2.2=(((perms n (nums_to n)).countP (fun l=>decide (V l=m)):Nat):Int):=by
 have hne:=perms_any n
 have hlen:=perms_len n (nums_to n) (nums_to_length _)
 have h8:=facN_le n hn
 unfold foldB
 generalize perms n (nums_to n)=P at hne hlen ⊢
 cases P with
 | nil=>exact absurd rfl hne
 | cons l P=>
  rw [List.length_cons] at hlen
  have e:stepB V l ([],0,0)=(l,V l,1):=by unfold stepB;rw [if_pos (.inl rfl)]
  rw [List.foldl_cons,e]
  obtain ⟨m,h2,h3,h4,h5,h6⟩:=bst_fold V P (l,V l,1) 1 rfl (by omega) (by omega)
  have h3':m≤V l:=h3
  refine ⟨m,h2,fun l' hl'=>?_,?_,?_⟩
  ·rcases List.mem_cons.1 hl' with rfl|hl'
   ·exact h3'
   ·exact h4 l' hl'
  ·rcases h5 with h5 | ⟨l',hl',h5⟩
   ·exact ⟨l,List.mem_cons_self,h5.symm⟩
   ·exact ⟨l',List.mem_cons_of_mem _ hl',h5⟩
  ·rw [h6,List.countP_cons]
   have e2:(m=(l,V l,(1:Int)).2.1)=(V l=m):=propext ⟨fun h=>h.symm,fun h=>h.symm⟩
   simp only [e2,decide_eq_true_eq];omega

/-- a sum over the ends of all jobs -/
def gsum (g:Int→Int→Int):Nat→List Int→Int
 | _,[]=>0
 | i,e::l=>g (i:Int) e + gsum g (i + 1) l
theorem gsum_set0 {g:Int→Int→Int} (hg:∀ x,g x 0=0):∀ (l:List Int) (k i:Nat) (v:Int),l[i]?=some 0→gsum g k (l.set i v)=gsum g k l + g ((k + i:Nat):Int) v
 | [],_,_,_,h=>by simp at h
 | a::l,k,0,v,h=>by simp at h;subst h;simp [gsum,hg];omega
 | a::l,k,i + 1,v,h=>by
  simp at h
  rw [List.set_cons_succ,gsum,gsum,gsum_set0 hg l (k + 1) i v h,show k + 1 + i=k + (i + 1) by omega];omega
theorem gsum_rep {g:Int→Int→Int} (hg:∀ x,g x 0=0):∀ n k,gsum g k (List.replicate n 0)=0
 | 0,_=>rfl
 | n + 1,k=>by rw [List.replicate_succ,gsum,hg,gsum_rep hg n];omega
def sumG (p:Int→Int) (g:Int→Int→Int):List Int→Int→Int
 | [],_=>0
 | x::l,t=>g x (t + p x) + sumG p g l (t + p x)
theorem endsF_g {jobs:List J} (hj:PlainOk jobs) {g:Int→Int→Int} (hg:∀ x,g x 0=0):∀ (l out:List Int) (now:Int),0≤now→now + 50 * (l.length:Int)≤100000→(∀ x ∈ l,0≤x∧x<jobs.length)→l.Nodup→(∀ x ∈ l,out[x.toNat]?=some 0)→gsum g 0 (endsF jobs l out now)=gsum g 0 out + sumG (pT jobs) g l now
 | [],out,now,_,_,_,_,_=>by simp [endsF,sumG]
 | x::l,out,now,h0,h1,hx,hn,hz=>by
  have hn':=List.nodup_cons.1 hn
  have hb:=pT_bd hj x
  have hx0:=hx x List.mem_cons_self
  simp only [List.length_cons] at h1
  have hw:wrap64 (mx now (rd_T31 jobs x).f2 + (rd_T31 jobs x).f0)=now + pT jobs x:=by
   rw [rel0 hj x,show mx now 0=now by unfold mx;split <;> omega]
   exact wr (by unfold pT at hb;omega) (by unfold pT at hb;omega)
  have hne:∀ y ∈ l,y.toNat≠x.toNat:=fun y hy e=>by
   have:=hx y (List.mem_cons_of_mem _ hy)
   exact hn'.1 (by rw [show x=y by omega];exact hy)
  have ih:=endsF_g hj hg l (out.set x.toNat (now + pT jobs x)) (now + pT jobs x) (by omega) (by omega) (fun y hy=>hx y (List.mem_cons_of_mem _ hy)) hn'.2 (fun y hy=>by rw [List.getElem?_set_ne (fun e=>hne y hy e.symm)];exact hz y (List.mem_cons_of_mem _ hy))
  rw [endsF,hw,sumG,ih,gsum_set0 hg _ _ _ _ (hz x List.mem_cons_self),show ((0 + x.toNat:Nat):Int)=x by omega];omega
/-- the weight of a late job -/
def lwT (jobs:List J) (f:Int) (x:Int):Int:=if f=7 then 1 else (rd_T31 jobs x).f1
def lateG (jobs:List J) (f:Int) (x e:Int):Int:=if dT jobs x<e then lwT jobs f x else 0
theorem lwT_bd {jobs:List J} (hj:JobsOk jobs) (f x:Int):0≤lwT jobs f x∧lwT jobs f x≤50:=by
 unfold lwT
 split
 ·omega
 ·rcases rdJ_any jobs x with h|h
  ·have:=hj.2 _ h;unfold JobOk at this;omega
  ·rw [h];exact ⟨by decide,by decide⟩
theorem valF_g {jobs:List J} (hj:PlainOk jobs) {f:Int} (hf:f=7∨f=8) (ends:List Int) (hl:ends.length=jobs.length) (hb:∀ e ∈ ends,0≤e∧e≤900):∀ (n i:Nat) (s:Int),i + n=ends.length→0≤s→s + 50 * (n:Int)≤1000000000→valF jobs ends f n i s=s + gsum (lateG jobs f) i (ends.drop i)
 | 0,i,s,h,_,_=>by rw [valF,List.drop_of_length_le (by omega)];simp [gsum]
 | n + 1,i,s,h,h0,h1=>by
  have hi:i<ends.length:=by omega
  have he:=hb _ (List.getElem_mem hi)
  have hd:=dT_bd hj (i:Int)
  have hw:=lwT_bd hj.1 f (i:Int)
  rw [valF,rd_nat hi,drop_cons hi,gsum]
  have ha:addF s (rd_T31 jobs (i:Int)) ends[i] f (decide (i=0))=s + lateG jobs f (i:Int) ends[i]:=by
   unfold addF lateG
   unfold dT at hd ⊢
   unfold lwT at hw ⊢
   rw [if_neg (by omega),if_neg (by omega),if_neg (by omega),if_neg (by omega),if_neg (by omega),if_neg (by omega),wr (x:=ends[i] - (rd_T31 jobs (i:Int)).f3) (by omega) (by omega)]
   by_cases c:ends[i] - (rd_T31 jobs (i:Int)).f3≤0
   ·rw [if_pos c,if_neg (by omega)];omega
   ·rw [if_neg c,if_pos (show (rd_T31 jobs (i:Int)).f3<ends[i] by omega)]
    by_cases q:f=7
    ·rw [if_pos q,if_pos q,wr (by omega) (by omega)]
    ·rw [if_neg q] at hw
     rw [if_neg q,if_neg q,wr (by omega) (by omega)]
  have hlt:0≤lateG jobs f (i:Int) ends[i]∧lateG jobs f (i:Int) ends[i]≤50:=by unfold lateG;split <;> omega
  rw [ha,valF_g hj hf ends hl hb n (i + 1) _ (by omega) (by omega) (by omega)]
  omega
def valL (jobs:List J) (f:Int) (l:List Int):Int:=valF jobs (endsAll jobs l) f jobs.length 0 0
theorem val_late {jobs:List J} (hj:PlainOk jobs) {f:Int} (hf:f=7∨f=8) {l:List Int} (hl:IsPerm jobs.length l):valL jobs f l=sumG (pT jobs) (lateG jobs f) l 0:=by
 have h8:=hj.1.1
 have ht:TwoOk jobs l:=⟨hj.1,hl⟩
 have hlen:=endsAll_len jobs l
 have hb:∀ e ∈ endsAll jobs l,0≤e∧e≤900:=fun e hm=>⟨endsAll_nonneg jobs l ht e hm,endsAll_le jobs l ht e hm⟩
 have hz:∀ x ∈ l,(List.replicate jobs.length (0:Int))[x.toNat]?=some 0:=fun x hx=>by
  have:=hl.2.2 x hx
  rw [List.getElem?_replicate,if_pos (by omega)]
 have hg:∀ x,lateG jobs f x 0=0:=fun x=>by unfold lateG;rw [if_neg (by have:=dT_bd hj x;omega)]
 have e:=endsF_g hj hg l (List.replicate jobs.length 0) 0 (by omega) (by have:=hl.1;omega) hl.2.2 hl.2.1 hz
 rw [gsum_rep hg] at e
 show valF jobs (endsAll jobs l) f jobs.length 0 0=_
 rw [valF_g hj hf _ hlen hb _ _ _ (by omega) (by omega) (by omega),List.drop_zero,endsAll,e];omega
/-- the jobs of an order that are on time -/
def ontL (p d:Int→Int):List Int→Int→List Int
 | [],_=>[]
 | x::l,t=>if t + p x≤d x then x::ontL p d l (t + p x) else ontL p d l (t + p x)
theorem ontL_feas {p d:Int→Int} (hp:∀ x,0≤p x):∀ (l:List Int) (t t':Int),t'≤t→feasF p d 0 (ontL p d l t) t'
 | [],_,_,_=>trivial
 | x::l,t,t',h=>by
  rw [ontL]
  have:=hp x
  split
  ·exact ⟨by omega,ontL_feas hp l _ _ (by omega)⟩
  ·exact ontL_feas hp l _ _ (by omega)
theorem ontL_sub (p d:Int→Int):∀ (l:List Int) (t:Int),(ontL p d l t).Sublist l
 | [],_=>List.Sublist.slnil
 | x::l,t=>by
  rw [ontL]
  split
  ·exact (ontL_sub p d l _).cons_cons x
  ·exact (ontL_sub p d l _).cons x
theorem ontL_sum {p d w:Int→Int} {g:Int→Int→Int} (hg:∀ x e,g x e=if d x<e then w x else 0):∀ (l:List Int) (t:Int),sumG p g l t + totL w (ontL p d l t)=totL w l
 | [],_=>rfl
 | x::l,t=>by
  have ih:=ontL_sum (p:=p) (w:=w) hg l (t + p x)
  rw [sumG,ontL,totL,hg]
  by_cases c:t + p x≤d x
  ·rw [if_pos c,if_neg (by omega),totL];omega
  ·rw [if_neg c,if_pos (by omega)];omega
theorem late_tail {p d w:Int→Int} {g:Int→Int→Int} (hw:∀ x,0≤w x) (hg:∀ x e,g x e=if d x<e then w x else 0):∀ (r:List Int) (t:Int),sumG p g r t≤totL w r
 | [],_=>Int.le_refl _
 | x::r,t=>by
  have ih:=late_tail (p:=p) hw hg r (t + p x)
  have:=hw x
  rw [sumG,totL,hg]
  split <;> omega
theorem late_rest {p d w:Int→Int} {g:Int→Int→Int} (hw:∀ x,0≤w x) (hg:∀ x e,g x e=if d x<e then w x else 0) (r:List Int):∀ (E:List Int) (t:Int),feasF p d 0 E t→sumG p g (E++r) t≤totL w r
 | [],t,_=>late_tail hw hg r t
 | x::E,t,h=>by
  have ih:=late_rest hw hg r E (t + p x) h.2
  have:=h.1
  rw [List.cons_append,sumG,hg,if_neg (by omega)];omega
/-- the greatest weight of jobs that can all be on time -/
structure BestW (n:Nat) (p d w:Int→Int) (M:Int):Prop where
 ex:∃ E:List Int,E.Nodup∧(∀ x ∈ E,0≤x∧x<(n:Int))∧feasF p d 0 E 0∧totL w E=M
 le:∀ E:List Int,E.Nodup→(∀ x ∈ E,0≤x∧x<(n:Int))→feasF p d 0 E 0→totL w E≤M
theorem rest_perm {n:Nat} {E:List Int} (hn:E.Nodup) (hi:∀ x ∈ E,0≤x∧x<(n:Int)):IsPerm n (E++(nums_to n).filter fun x=>decide (x ∉ E))∧(E++(nums_to n).filter fun x=>decide (x ∉ E)).Perm (nums_to n):=by
 have hnd:(E++(nums_to n).filter fun x=>decide (x ∉ E)).Nodup:=List.nodup_append.2 ⟨hn,List.Pairwise.filter _ (nums_to_nodup n),fun a ha b hb e=>by
  subst e
  exact (of_decide_eq_true (List.mem_filter.1 hb).2) ha⟩
 have hm:∀ x,x ∈ E++(nums_to n).filter (fun x=>decide (x ∉ E)) ↔ x ∈ nums_to n:=fun x=>by
  rw [List.mem_append,List.mem_filter]
  constructor
  ·rintro (h|h)
   ·exact mem_nums_to.2 (hi x h)
   ·exact h.1
  ·intro h
   by_cases c:x ∈ E
   ·exact .inl c
   ·exact .inr ⟨h,decide_eq_true c⟩
 have hp:(E++(nums_to n).filter fun x=>decide (x ∉ E)).Perm (nums_to n):=(List.perm_ext_iff_of_nodup hnd (nums_to_nodup n)).2 hm
 exact ⟨⟨by rw [hp.length_eq,nums_to_length],hnd,fun x hx=>mem_nums_to.1 ((hm x).1 hx)⟩,hp⟩
/-- The least value of an order is what the others weigh. -/
theorem late_best {jobs:List J} (hj:PlainOk jobs) {f:Int} (hf:f=7∨f=8) {M:Int} (hM:BestW jobs.length (pT jobs) (dT jobs) (lwT jobs f) M):(foldB (valL jobs f) (perms jobs.length (nums_to jobs.length))).2.1=totL (lwT jobs f) (nums_to jobs.length) - M:=by
 have hw:=fun x=>(lwT_bd hj.1 f x).1
 have hp:=fun x=>(pT_bd hj x).1
 have hg:∀ x e,lateG jobs f x e=if dT jobs x<e then lwT jobs f x else 0:=fun _ _=>rfl
 obtain ⟨m,h1,h2,⟨l0,hl0,h3⟩,_⟩:=bst_count (V:=valL jobs f) (n:=jobs.length) hj.1.1
 rw [h1]
 obtain ⟨E,e1,e2,e3,e4⟩:=hM.ex
 have lo:m≤totL (lwT jobs f) (nums_to jobs.length) - M:=by
  obtain ⟨r1,r2⟩:=rest_perm e1 e2
  have h4:=h2 _ (isPerm_perms r1)
  rw [val_late hj hf r1] at h4
  have h5:=late_rest hw hg ((nums_to jobs.length).filter fun x=>decide (x ∉ E)) E 0 e3
  have h6:=totL_perm (lwT jobs f) r2
  rw [totL_app,e4] at h6
  omega
 have hi:totL (lwT jobs f) (nums_to jobs.length) - M≤m:=by
  have hl:=perms_isPerm hl0
  have h4:=ontL_sum (p:=pT jobs) hg l0 0
  have hs:=ontL_sub (pT jobs) (dT jobs) l0 0
  have h5:=hM.le (ontL (pT jobs) (dT jobs) l0 0) (hs.nodup hl.2.1) (fun x hx=>hl.2.2 x (hs.subset hx)) (ontL_feas hp l0 0 0 (Int.le_refl _))
  have h6:=totL_perm (lwT jobs f) (perms_perm _ _ _ (nums_to_length _) hl0)
  rw [←h3,val_late hj hf hl]
  omega
 omega

/-- What can be on time in some order can be so in due order. -/
theorem edd {p d:Int→Int} (hp:∀ x,0≤p x) {E S:List Int} (h:feasF p d 0 E 0) (hs:S.Pairwise fun a b=>d a≤d b) (hpm:E.Perm S):feasF p d 0 S 0:=by
 have key:=sorted_best (lt:=fun a b=>decide (d a<d b)) (V:=fun l=>if (Classical.propDecidable (feasF p d 0 l 0)).decide=true then 0 else 1) (G:=fun _=>True) (fun _ _ _ _=>trivial) (fun pre a b suf _ hab=>by
  have hab:=of_decide_eq_false hab
  by_cases c:feasF p d 0 (pre++a::b::suf) 0
  ·have c2:=feasF_swap hp (show d b≤d a by omega) suf pre 0 c
   simp [c,c2]
  ·simp only [c,decide_false,Bool.false_eq_true,if_false];split <;> omega) S [] E (hs.imp fun {a b} hab=>decide_eq_false (by omega)) hpm trivial
 simp only [List.nil_append] at key
 by_cases c:feasF p d 0 S 0
 ·exact c
 ·simp [h,c] at key

def tab (F:Nat→Int) (n:Nat):List Int:=(List.range n).map F
theorem tab_len (F:Nat→Int) (n:Nat):(tab F n).length=n:=by simp [tab]
theorem tab_get {F:Nat→Int} {n k:Nat} (h:k<(tab F n).length):(tab F n)[k]=F k:=by simp [tab]
theorem tab_rd {F:Nat→Int} {n k:Nat} (h:k<n):rd (tab F n) (k:Int)=F k:=by rw [rd_nat (by rw [tab_len];exact h),tab_get]
theorem tab_set {F:Nat→Int} {n k:Nat} {v:Int} : (tab F n).set k v=tab (fun j=>if j=k then v else F j) n:=by
 refine List.ext_getElem (by simp [tab]) fun i h1 h2=>?_
 rw [List.getElem_set,tab_get,tab_get]
 by_cases e:k=i
 ·rw [if_pos e,if_pos e.symm]
 ·rw [if_neg e,if_neg (fun h=>e h.symm)]
theorem tab_congr {F G:Nat→Int} {n:Nat} (h:∀ j,j<n→F j=G j):tab F n=tab G n:=
 List.ext_getElem (by simp [tab]) fun i h1 h2=>by rw [tab_get,tab_get];exact h i (by rw [tab_len] at h1;exact h1)
theorem tab_snoc (F:Nat→Int) (n:Nat):tab F (n + 1)=tab F n++[F n]:=by unfold tab;rw [List.range_succ,List.map_append];rfl

def dpN (F:Nat→Int) (t b:Nat) (w:Int) (k:Nat):Int:=if t≤k∧k≤b∧0≤F (k - t) then mx (F k) (F (k - t) + w) else F k
theorem dpN_ge (F:Nat→Int) (t b:Nat) (w:Int) (k:Nat):F k≤dpN F t b w k:=by unfold dpN;split <;> (try unfold mx;split) <;> omega
/-- the table of the greatest weights, behind some jobs in due order -/
structure DPI (p d w:Int→Int) (T:Nat) (A:List Int) (F:Nat→Int):Prop where
 made:∀ k:Nat,k≤T→F k= -1∨∃ S:List Int,S.Sublist A∧feasF p d 0 S 0∧totL p S=(k:Int)∧totL w S=F k
 top:∀ S:List Int,S.Sublist A→feasF p d 0 S 0→∃ k:Nat,k≤T∧totL p S=(k:Int)∧totL w S≤F k
theorem totL_sub {p:Int→Int} (hp:∀ x,0≤p x) {S A:List Int} (h:S.Sublist A):totL p S≤totL p A:=by
 induction h with
 | slnil=>exact Int.le_refl _
 | cons x _ ih=>rw [totL];have:=hp x;omega
 | cons_cons x _ ih=>rw [totL,totL];omega
theorem DPI.step {p d w:Int→Int} (hp:∀ x,0≤p x) (hw:∀ x,0≤w x) {T:Nat} {A:List Int} {F:Nat→Int} (h:DPI p d w T A F) {x:Int} {t b:Nat} (ht:p x=(t:Int)) (hT:totL p (A++[x])≤(T:Int)) (hb:∀ k:Nat,k≤T→(k≤b ↔ (k:Int)≤d x)):DPI p d w T (A++[x]) (dpN F t b (w x)):=by
 have hwx:=hw x
 refine ⟨fun k hk=>?_,fun S hS hf=>?_⟩
 ·by_cases c:t≤k∧k≤b∧0≤F (k - t)
  ·have e:dpN F t b (w x) k=mx (F k) (F (k - t) + w x):=by unfold dpN;rw [if_pos c]
   rw [e]
   by_cases q:F (k - t) + w x≤F k
   ·rw [show mx (F k) (F (k - t) + w x)=F k by unfold mx;split <;> omega]
    rcases h.made k hk with h1 | ⟨S,h1,h2⟩
    ·omega
    ·exact .inr ⟨S,h1.trans (List.sublist_append_left A [x]),h2⟩
   ·rw [show mx (F k) (F (k - t) + w x)=F (k - t) + w x by unfold mx;split <;> omega]
    rcases h.made (k - t) (by omega) with h1 | ⟨S,h1,h2,h3,h4⟩
    ·omega
    ·refine .inr ⟨S++[x],h1.append (List.Sublist.refl [x]),?_,?_,?_⟩
     ·rw [feasF_snoc]
      have:=(hb k hk).1 c.2.1
      exact ⟨h2,by omega⟩
     ·rw [totL_app,totL,totL];omega
     ·rw [totL_app,totL,totL];omega
  ·have e:dpN F t b (w x) k=F k:=by unfold dpN;rw [if_neg c]
   rw [e]
   rcases h.made k hk with h1 | ⟨S,h1,h2⟩
   ·exact .inl h1
   ·exact .inr ⟨S,h1.trans (List.sublist_append_left A [x]),h2⟩
 ·obtain ⟨S1,S2,rfl,h1,h2⟩:=List.sublist_append_iff.1 hS
  cases S2 with
  | nil=>
   rw [List.append_nil] at hf ⊢
   obtain ⟨k,k1,k2,k3⟩:=h.top S1 h1 hf
   exact ⟨k,k1,k2,Int.le_trans k3 (dpN_ge F t b (w x) k)⟩
  | cons y S2=>
   have hy:y=x∧S2=[]:=by
    have h3:=h2.length_le
    simp at h3
    have h4:=h2.subset List.mem_cons_self
    exact ⟨List.mem_singleton.1 h4,h3⟩
   obtain ⟨rfl,rfl⟩:=hy
   rw [feasF_snoc] at hf
   obtain ⟨k,k1,k2,k3⟩:=h.top S1 h1 hf.1
   have hn:=totL_nonneg hw S1
   have hle:=totL_sub hp hS
   have ht2:=hf.2
   rw [totL_app,totL,totL] at hle
   have hkT:k + t≤T:=by omega
   refine ⟨k + t,hkT,by rw [totL_app,totL,totL];omega,?_⟩
   have hb2:=(hb (k + t) hkT).2 (by omega)
   unfold dpN
   rw [Nat.add_sub_cancel,if_pos ⟨by omega,hb2,by omega⟩,totL_app,totL,totL]
   unfold mx;split <;> omega
theorem mxW_mem:∀ (l:List Int) (a:Int),mxW l a=a∨mxW l a ∈ l
 | [],a=>.inl rfl
 | x::l,a=>by
  rw [mxW]
  rcases mxW_mem l (mx a x) with h|h
  ·rw [h]
   have:mx a x=a∨mx a x=x:=by unfold mx;split <;> simp
   rcases this with e|e
   ·exact .inl e
   ·rw [e];exact .inr List.mem_cons_self
  ·exact .inr (List.mem_cons_of_mem _ h)
theorem mxW_le:∀ (l:List Int) (a x:Int),x ∈ l→x≤mxW l a
 | y::l,a,x,h=>by
  rw [mxW]
  rcases List.mem_cons.1 h with rfl|h
  ·have:=mxW_ge l (mx a x)
   have:x≤mx a x:=by unfold mx;split <;> omega
   omega
  ·exact mxW_le l _ x h
/-- The table's greatest number is the greatest weight. -/
theorem DPI.best {n:Nat} {p d w:Int→Int} (hp:∀ x,0≤p x) (hw:∀ x,0≤w x) {T:Nat} {o:List Int} (ho:IsPerm n o) (hs:o.Pairwise fun a b=>d a≤d b) {F:Nat→Int} (h:DPI p d w T o F):BestW n p d w (mxW (tab F (T + 1)) 0):=by
 refine ⟨?_,fun E e1 e2 e3=>?_⟩
 ·rcases mxW_mem (tab F (T + 1)) 0 with h1|h1
  ·rw [h1];exact ⟨[],List.nodup_nil,(fun x hx=>by cases hx),trivial,rfl⟩
  ·obtain ⟨k,hk,e⟩:=List.getElem_of_mem h1
   rw [tab_len] at hk
   rw [tab_get] at e
   rcases h.made k (by omega) with h2 | ⟨S,h2,h3,h4,h5⟩
   ·have:=mxW_ge (tab F (T + 1)) 0
    omega
   ·exact ⟨S,h2.nodup ho.2.1,fun x hx=>ho.2.2 x (h2.subset hx),h3,by omega⟩
 ·have hsub:(o.filter fun x=>decide (x ∈ E)).Sublist o:=List.filter_sublist
  have hpm:E.Perm (o.filter fun x=>decide (x ∈ E)):=(List.perm_ext_iff_of_nodup e1 (hsub.nodup ho.2.1)).2 fun x=>by
   rw [List.mem_filter]
   exact ⟨fun hx=>⟨ho.all x (e2 x hx).1 (e2 x hx).2,decide_eq_true hx⟩,fun hx=>of_decide_eq_true hx.2⟩
  have hf:=edd hp e3 (List.Pairwise.filter _ hs) hpm
  obtain ⟨k,k1,k2,k3⟩:=h.top _ hsub hf
  rw [totL_perm w hpm]
  have:=mxW_le (tab F (T + 1)) 0 (F k) (by rw [←tab_get (F:=F) (n:=T + 1) (k:=k) (by rw [tab_len];omega)];exact List.getElem_mem _)
  omega

theorem sumD_tot (jobs:List J):sumD jobs=totL (pT jobs) (nums_to jobs.length):=by
 have key:∀ i,i≤jobs.length→sumD (jobs.drop i)=totL (pT jobs) ((nums_to jobs.length).drop i):=by
  refine rev_ind jobs.length ?_ ?_
  ·rw [List.drop_length,List.drop_of_length_le (by rw [nums_to_length];exact Nat.le_refl _)];rfl
  ·intro i hi ih
   have e:(nums_to jobs.length)[i]'(by rw [nums_to_length];exact hi)=(i:Int):=by simp [nums_to]
   rw [drop_cons hi,drop_cons (l:=nums_to jobs.length) (i:=i) (by rw [nums_to_length];exact hi),sumD,totL,ih,e]
   unfold pT;rw [rdJ hi]
 have:=key 0 (Nat.zero_le _)
 simpa using this
theorem spec_tab_l2 {jobs:List J} (o:List Int) (i:Int) (F:Nat→Int) (T t b:Nat) (w r dd:Int) (hw:0≤w∧w≤50) (hF:∀ k,k≤T→F k≤1000000000) (ht:1≤t) (hT:T≤1000) (hb:b≤T) (R:List Int) (hR:Ev (fun k=>spec_l6Table.l1 k jobs o (tab (dpN F t b w) (T + 1)) (wrap64 (i + 1))) R):Ev (fun k=>spec_l6Table.l2 k jobs o (tab F (T + 1)) i (b:Int) (t:Int) w r dd) R:=by
 have exit:∀ (G:List Int) (k0:Int),k0<(t:Int)→Ev (fun k=>spec_l6Table.l1 k jobs o G (wrap64 (i + 1))) R→Ev (fun k=>spec_l6Table.l2 k jobs o G i k0 (t:Int) w r dd) R:=fun G k0 h0 hr=>ev_go _ (fun k=>by simp only [spec_l6Table.l2];rw [if_neg (by omega)]) hr
 have main:∀ c:Nat,t - 1 + c≤b→Ev (fun k=>spec_l6Table.l2 k jobs o (tab (fun j=>if t - 1 + c<j then dpN F t b w j else F j) (T + 1)) i ((t - 1 + c:Nat):Int) (t:Int) w r dd) R:=by
  intro c
  induction c with
  | zero=>
   intro _
   refine exit _ _ (by omega) ?_
   rw [tab_congr (G:=dpN F t b w) (fun j _=>?_)]
   ·exact hR
   ·by_cases q:t - 1 + 0<j
    ·rw [if_pos q]
    ·rw [if_neg q];unfold dpN;rw [if_neg (by omega)]
  | succ c ih=>
   intro hc
   have ih':=ih (by omega)
   have w1:wrap64 (((t - 1 + (c + 1):Nat):Int) - (t:Int))=((c:Nat):Int):=by rw [wr (by omega) (by omega)];omega
   have w2:wrap64 (((t - 1 + (c + 1):Nat):Int) - 1)=((t - 1 + c:Nat):Int):=by rw [wr (by omega) (by omega)];omega
   have r1:rd (tab (fun j=>if t - 1 + (c + 1)<j then dpN F t b w j else F j) (T + 1)) ((c:Nat):Int)=F c:=by rw [tab_rd (by omega),if_neg (by omega)]
   have r2:rd (tab (fun j=>if t - 1 + (c + 1)<j then dpN F t b w j else F j) (T + 1)) ((t - 1 + (c + 1):Nat):Int)=F (t - 1 + (c + 1)):=by rw [tab_rd (by omega),if_neg (by omega)]
   have hck:t - 1 + (c + 1) - t=c:=by omega
   by_cases q:0≤F c
   ·have hFc:=hF c (by omega)
    refine ev_go _ (fun k=>?_) ih'
    simp only [spec_l6Table.l2]
    rw [if_pos (by omega),w1,if_pos (by omega),if_pos (by rw [tab_len];omega),r1,if_pos q,if_pos (by omega),if_pos (by rw [tab_len];omega),r2,wr (x:=F c + w) (by omega) (by omega),spec_l1Most.eqk,Option.bind_some,w2,Int.toNat_natCast,tab_set]
    congr 1
    refine tab_congr fun j _=>?_
    by_cases e:j=t - 1 + (c + 1)
    ·subst e
     rw [if_pos rfl,if_pos (by omega)]
     unfold dpN
     rw [hck,if_pos ⟨by omega,hc,q⟩]
    ·by_cases e2:t - 1 + (c + 1)<j
     ·rw [if_neg e,if_pos e2,if_pos (by omega)]
     ·rw [if_neg e,if_neg e2,if_neg (by omega)]
   ·refine ev_go _ (fun k=>?_) ih'
    simp only [spec_l6Table.l2]
    rw [if_pos (by omega),w1,if_pos (by omega),if_pos (by rw [tab_len];omega),r1,if_neg (by omega),w2]
    congr 1
    refine tab_congr fun j _=>?_
    by_cases e:j=t - 1 + (c + 1)
    ·subst e
     rw [if_neg (by omega),if_pos (by omega)]
     unfold dpN
     rw [hck,if_neg (fun h=>q h.2.2)]
    ·by_cases e2:t - 1 + (c + 1)<j
     ·rw [if_pos e2,if_pos (by omega)]
     ·rw [if_neg e2,if_neg (by omega)]
 by_cases h:t - 1≤b
 ·have:=main (b - (t - 1)) (by omega)
  rw [show t - 1 + (b - (t - 1))=b by omega] at this
  rw [tab_congr (G:=fun j=>if b<j then dpN F t b w j else F j) (fun j _=>?_)]
  ·exact this
  ·by_cases q:b<j
   ·rw [if_pos q];unfold dpN;rw [if_neg (by omega)]
   ·rw [if_neg q]
 ·refine exit _ _ (by omega) ?_
  rw [tab_congr (G:=dpN F t b w) (fun j _=>?_)]
  ·exact hR
  ·unfold dpN;rw [if_neg (by omega)]
theorem spec_late {jobs:List J} (hj:PlainOk jobs):∃ (t:List Int) (M:Int),BestW jobs.length (pT jobs) (dT jobs) (lwT jobs 8) M∧Ev (fun k=>spec_l6Table.f k jobs) t∧Ev (fun k=>spec_l2Last.f k t) M∧0≤M∧M≤1000:=by
 have h8:=hj.1.1
 have hp:=fun x=>(pT_bd hj x).1
 have hw:=fun x=>lwT_bd hj.1 8 x
 have hsd:=sumD_in jobs (fun j hm=>(hj.1.2 j hm).1)
 obtain ⟨T,hT⟩:=Int.eq_ofNat_of_zero_le hsd.1
 have hpm:=insAll_perm (soonLt jobs) (nums_to jobs.length) []
 rw [List.append_nil] at hpm
 have hss:SortedLt (soonLt jobs) (insAll (soonLt jobs) (nums_to jobs.length) []):=insAll_sorted (soonLt_pre jobs (fun _=>True)) _ [] (fun _ _=>trivial) (fun _ _=>trivial) List.Pairwise.nil
 have hdue:=spec_l6Due.ev jobs (nums_to jobs.length) (by rw [nums_to_length];omega) (nums_to_nodup _) (fun x hx=>mem_nums_to.1 hx)
 generalize insAll (soonLt jobs) (nums_to jobs.length) []=o at hpm hss hdue
 have ho:IsPerm jobs.length o:=⟨by rw [hpm.length_eq,nums_to_length],hpm.nodup_iff.2 (nums_to_nodup _),fun x hx=>mem_nums_to.1 (hpm.mem_iff.1 hx)⟩
 have hds:o.Pairwise fun a b=>dT jobs a≤dT jobs b:=by
  unfold SortedLt at hss
  refine hss.imp ?_
  intro a b hab
  rw [soonLt_f] at hab
  unfold SoonP at hab;unfold dT;omega
 have hto:totL (pT jobs) o=(T:Int):=by rw [totL_perm _ hpm,←sumD_tot,hT]
  -- the jobs one after another
 have main:=rev_ind (P:=fun i=>∀ F:Nat→Int,DPI (pT jobs) (dT jobs) (lwT jobs 8) T (o.take i) F→∃ F',DPI (pT jobs) (dT jobs) (lwT jobs 8) T o F'∧Ev (fun k=>spec_l6Table.l1 k jobs o (tab F (T + 1)) (i:Int)) (tab F' (T + 1))) o.length ?_ ?_ 0 (Nat.zero_le _) (fun j=>if j=0 then 0 else -1) ?_
 ·obtain ⟨F',hI,hE⟩:=main
  have hb:=hI.best hp (fun x=>(hw x).1) ho hds
  refine ⟨tab F' (T + 1),_,hb,?_,spec_l2Last.ev _ (by rw [tab_len];omega),mxW_ge _ _,?_⟩
  ·unfold spec_l6Table.f
   refine ev_bind _ (spec_l6All.ev jobs h8) (ev_bind _ hdue ?_)
   have fill:=rev_ind (P:=fun i=>Ev (fun k=>spec_l6Table.l0 k jobs o (tab (fun j=>if j=0 then 0 else -1) (i + 1)) (i:Int)) (tab F' (T + 1))) T ?_ ?_ 0 (Nat.zero_le _)
   ·exact fill
   ·refine ev_go (fun k=>(spec_l2Times.f k jobs).bind fun t=>if ((T:Nat):Int)<t then (if (tab (fun j=>if j=0 then 0 else -1) (T + 1)).length<17592186044416 then spec_l6Table.l0 k jobs o (tab (fun j=>if j=0 then 0 else -1) (T + 1)++[-1]) (wrap64 ((T:Int) + 1)) else none) else spec_l6Table.l1 k jobs o (tab (fun j=>if j=0 then 0 else -1) (T + 1)) 0) (fun k=>by simp only [spec_l6Table.l0]) (ev_bind _ (spec_l2Times.ev jobs hj.1) ?_)
    rw [hT]
    simp only [if_neg (Int.lt_irrefl _)]
    exact hE
   ·intro i hi ih
    refine ev_go (fun k=>(spec_l2Times.f k jobs).bind fun t=>if ((i:Nat):Int)<t then (if (tab (fun j=>if j=0 then 0 else -1) (i + 1)).length<17592186044416 then spec_l6Table.l0 k jobs o (tab (fun j=>if j=0 then 0 else -1) (i + 1)++[-1]) (wrap64 ((i:Int) + 1)) else none) else spec_l6Table.l1 k jobs o (tab (fun j=>if j=0 then 0 else -1) (i + 1)) 0) (fun k=>by simp only [spec_l6Table.l0]) (ev_bind _ (spec_l2Times.ev jobs hj.1) ?_)
    rw [hT]
    simp only [if_pos (show (i:Int)<(T:Int) by omega),tab_len,if_pos (show i + 1<17592186044416 by omega),wr1 (show i<1000000000000000000 by omega)]
    rw [show tab (fun j=>if j=0 then 0 else -1) (i + 1)++[-1]=tab (fun j=>if j=0 then 0 else -1) (i + 1 + 1) by rw [tab_snoc _ (i + 1),if_neg (by omega)]]
    exact ih
  ·obtain ⟨E,e1,e2,e3,e4⟩:=hb.ex
   rw [←e4]
   have hle:=totL_le (fun x=>(hw x).2) E
   have:=nodup_sub e1 (s:=nums_to jobs.length) (fun x hx=>mem_nums_to.2 (e2 x hx))
   rw [nums_to_length] at this
   omega
 ·intro F hI
  rw [List.take_length] at hI
  refine ⟨F,hI,ev_stop fun k=>?_⟩
  simp only [spec_l6Table.l1];rw [if_neg (by omega)]
 ·intro i hi ih F hI
  have hx:=ho.2.2 _ (List.getElem_mem hi)
  have hpb:=pT_bd hj o[i]
  have hdb:=dT_bd hj o[i]
  have hok:=rdJ_ok hj.1 hx.1 hx.2
  obtain ⟨t,ht⟩:=Int.eq_ofNat_of_zero_le hpb.1
  obtain ⟨dd,hd⟩:=Int.eq_ofNat_of_zero_le hdb.1
  have htk:o.take (i + 1)=o.take i++[o[i]]:=List.take_succ_eq_append_getElem hi
  have hI2:=hI.step hp (fun x=>(hw x).1) (x:=o[i]) (t:=t) (b:=min dd T) ht (by rw [←htk,←hto];exact totL_sub hp (List.take_sublist _ _)) (fun k hk=>by rw [hd];omega)
  rw [←htk] at hI2
  obtain ⟨F',hF',hE⟩:=ih _ hI2
  refine ⟨F',hF',?_⟩
  have bound:∀ k,k≤T→F k≤1000000000:=fun k hk=>by
   rcases hI.made k hk with h1 | ⟨S,h1,_,_,h4⟩
   ·omega
   ·rw [←h4]
    have h5:=totL_le (fun x=>(hw x).2) S
    have h6:=h1.length_le
    have h7:=List.length_take_le i o
    have:=ho.1
    omega
  have inner:=spec_tab_l2 (jobs:=jobs) o (i:Int) F T t (min dd T) (lwT jobs 8 o[i]) (rd_T31 jobs o[i]).f2 (rd_T31 jobs o[i]).f3 (hw _) bound (by have:=hok.1;unfold pT at ht;omega) (by omega) (by omega) (tab F' (T + 1)) (by rw [wr1 (by have:=ho.1;omega)];exact hE)
  refine ev_go _ (fun k=>?_) inner
  simp only [spec_l6Table.l1]
  unfold dT at hd
  unfold pT at ht
  rw [if_pos (by omega),if_pos (by omega),rd_nat hi,if_pos hx.1,if_pos hx.2,hd,tab_len,wr (x:=((T + 1:Nat):Int) - 1) (by omega) (by omega),spec_l1Least.eq,Option.bind_some,ht]
  have hmn:mn ((dd:Nat):Int) (((T + 1:Nat):Int) - 1)=((min dd T:Nat):Int):=by unfold mn;split <;> omega
  have hw2:(rd_T31 jobs o[i]).f1=lwT jobs 8 o[i]:=by unfold lwT;rw [if_neg (by omega)]
  rw [hmn,hw2]
 ·rw [List.take_zero]
  refine ⟨fun k hk=>?_,fun S hS _=>?_⟩
  ·by_cases q:k=0
   ·subst q;exact .inr ⟨[],List.Sublist.refl _,trivial,rfl,rfl⟩
   ·exact .inl (if_neg q)
  ·rw [List.sublist_nil.1 hS]
   exact ⟨0,Nat.zero_le _,rfl,Int.le_refl _⟩
theorem spec_LeastLateWeight.ev {jobs:List J} (hj:PlainOk jobs) {M:Int} (hM:BestW jobs.length (pT jobs) (dT jobs) (lwT jobs 8) M):Ev (fun k=>spec_LeastLateWeight.f k jobs) (totL (lwT jobs 8) (nums_to jobs.length) - M,true):=by
 have h8:=hj.1.1
 obtain ⟨t,M',h1,t1,t2,h3,h4⟩:=spec_late hj
 have e:M'=M:=by
  obtain ⟨E,e1,e2,e3,e4⟩:=h1.ex
  obtain ⟨E',f1,f2,f3,f4⟩:=hM.ex
  have:=hM.le E e1 e2 e3
  have:=h1.le E' f1 f2 f3
  omega
 subst e
 unfold spec_LeastLateWeight.f
 refine ev_guard' (spec_l6Good.ev jobs (by omega)) (fun _=>?_) (fun hn=>absurd hj hn)
 have lp:=rev_ind (P:=fun i=>∀ s:Int,0≤s→s≤50 * (i:Int)→Ev (fun k=>spec_LeastLateWeight.l0 k jobs s (i:Int)) (s + totL (lwT jobs 8) ((nums_to jobs.length).drop i) - M',true)) jobs.length ?_ ?_ 0 (Nat.zero_le _) 0 (by omega) (by omega)
 ·exact ev_eq lp (by rw [List.drop_zero];simp)
 ·intro s s0 s1
  rw [List.drop_of_length_le (by rw [nums_to_length];exact Nat.le_refl _),totL]
  refine ev_go (fun k=>(spec_l6Table.f k jobs).bind fun t=>(spec_l2Last.f k t).bind fun u=>some (wrap64 (s - u),true)) (fun k=>?_) (ev_bind _ t1 (ev_bind _ t2 (ev_eq (Ev.now _) (by rw [wr (by omega) (by omega)];simp))))
  simp only [spec_LeastLateWeight.l0];rw [if_neg (by omega)]
 ·intro i hi ih s s0 s1
  have e:(nums_to jobs.length)[i]'(by rw [nums_to_length];exact hi)=(i:Int):=by simp [nums_to]
  have hw:=lwT_bd hj.1 8 (i:Int)
  have hw2:(rd_T31 jobs (i:Int)).f1=lwT jobs 8 (i:Int):=by unfold lwT;rw [if_neg (by omega)]
  rw [drop_cons (by rw [nums_to_length];exact hi),e,totL]
  refine ev_go _ (fun k=>?_) (ev_eq (ih (s + lwT jobs 8 (i:Int)) (by omega) (by omega)) (by rw [Int.add_assoc]))
  simp only [spec_LeastLateWeight.l0];rw [if_pos (by omega),if_pos (by omega),hw2,wr (x:=s + lwT jobs 8 (i:Int)) (by omega) (by omega),wr1 (by omega)]

theorem onT_feas {jobs:List J} (hj:PlainOk jobs):∀ (l:List Int) (t:Int),0≤t→t + 50 * (l.length:Int)≤1000000→(onTimeF jobs l t=true ↔ feasF (pT jobs) (dT jobs) 0 l t)
 | [],t,_,_=>by simp [onTimeF,feasF]
 | x::l,t,h0,h1=>by
  have hp:=pT_bd hj x
  have hd:=dT_bd hj x
  simp only [List.length_cons] at h1
  have w1:wrap64 (t + (rd_T31 jobs x).f0)=t + pT jobs x:=wr (by unfold pT at hp;omega) (by unfold pT at hp;omega)
  have ih:=onT_feas hj l (t + pT jobs x) (by omega) (by omega)
  rw [onTimeF,w1,feasF]
  by_cases c:t + pT jobs x>(rd_T31 jobs x).f3
  ·rw [if_pos c]
   exact ⟨fun h=>(by cases h),fun h=>by have:=h.1;unfold dT at this;omega⟩
  ·rw [if_neg c,ih]
   exact ⟨fun h=>⟨by unfold dT;omega,h⟩,fun h=>h.2⟩
theorem ratio_tot {jobs:List J} (hj:PlainOk jobs):∀ (l:List Int) (a b:Int),0≤a→0≤b→a + 50 * (l.length:Int)≤1000000→b + 50 * (l.length:Int)≤1000000→ratioF jobs l a b=(a + totL (lwT jobs 8) l,b + totL (pT jobs) l)
 | [],a,b,_,_,_,_=>by simp [ratioF,totL]
 | x::l,a,b,h1,h2,h3,h4=>by
  have hp:=pT_bd hj x
  have hw:=lwT_bd hj.1 8 x
  simp only [List.length_cons] at h3 h4
  have e2:(rd_T31 jobs x).f1=lwT jobs 8 x:=by unfold lwT;rw [if_neg (by omega)]
  have e3:(rd_T31 jobs x).f0=pT jobs x:=rfl
  rw [ratioF,e2,e3,wr (x:=a + lwT jobs 8 x) (by omega) (by omega),wr (x:=b + pT jobs x) (by omega) (by omega),ratio_tot hj l _ _ (by omega) (by omega) (by omega) (by omega),totL,totL,Int.add_assoc,Int.add_assoc]
theorem bitsL_in {n c:Nat} (hc:c<2 ^ n):∀ x ∈ bitsL c,0≤x∧x<(n:Int):=fun x hx=>by
 obtain ⟨⟨h0,h8⟩,hb⟩:=mem_bitsL.1 hx
 refine ⟨h0,?_⟩
 refine Classical.byContradiction fun h=>?_
 have hle:n≤x.toNat:=by omega
 have:c / 2 ^ x.toNat=0:=Nat.div_eq_of_lt (Nat.lt_of_lt_of_le hc (Nat.pow_le_pow_right (by omega) hle))
 rw [this] at hb;cases hb
theorem bitsL_nodup (c:Nat):(bitsL c).Nodup:=List.Pairwise.filter _ (nums_to_nodup 8)
theorem bit_code (q:Nat→Bool):∀ n,n≤8→∃ c,c<2 ^ n∧∀ i,i<n→(c / 2 ^ i % 2=1 ↔ q i=true)
 | 0,_=>⟨0,by decide,fun i hi=>by omega⟩
 | n + 1,h=>by
  obtain ⟨c,hc,hq⟩:=bit_code q n (by omega)
  have h2:2 ^ (n + 1)=2 ^ n + 2 ^ n:=by rw [Nat.pow_succ];omega
  cases e:q n with
  | false=>
   refine ⟨c,by omega,fun i hi=>?_⟩
   by_cases e2:i=n
   ·subst e2
    rw [Nat.div_eq_of_lt hc,e];simp
   ·exact hq i (by omega)
  | true=>
   refine ⟨c + 2 ^ n,by omega,fun i hi=>?_⟩
   by_cases e2:i=n
   ·subst e2
    rw [Nat.add_div_right _ (Nat.two_pow_pos i),Nat.div_eq_of_lt hc,e];simp
   ·have hi':i<n:=by omega
    rw [←hq i hi']
    obtain ⟨k,hk⟩:∃ k,n=i + 1 + k:=⟨n - i - 1,by omega⟩
    have e3:2 ^ n=2 ^ i * (2 * 2 ^ k):=by rw [hk,Nat.pow_add,Nat.pow_succ,Nat.mul_assoc]
    rw [e3,Nat.add_mul_div_left _ _ (Nat.two_pow_pos i),Nat.add_mul_mod_self_left]
theorem code_of {n:Nat} (hn:n≤8) {E:List Int} (h1:E.Nodup) (h2:∀ x ∈ E,0≤x∧x<(n:Int)):∃ c,c<2 ^ n∧E.Perm (bitsL c):=by
 obtain ⟨c,hc,hq⟩:=bit_code (fun i=>decide ((i:Int) ∈ E)) n hn
 refine ⟨c,hc,(List.perm_ext_iff_of_nodup h1 (bitsL_nodup c)).2 fun x=>?_⟩
 constructor
 ·intro hx
  have hx2:=h2 x hx
  refine mem_bitsL.2 ⟨⟨hx2.1,by omega⟩,(hq x.toNat (by omega)).2 (decide_eq_true ?_)⟩
  rw [show ((x.toNat:Nat):Int)=x by omega];exact hx
 ·intro hx
  have hx2:=bitsL_in hc x hx
  have:=of_decide_eq_true ((hq x.toNat (by omega)).1 (mem_bitsL.1 hx).2)
  rwa [show ((x.toNat:Nat):Int)=x by omega] at this
theorem shl_pow:∀ n,n<9→shl .i64 1 ((n:Nat):Int)=((2 ^ n:Nat):Int):=by decide +kernel
theorem nodup_tot {n:Nat} {w:Int→Int} (hw:∀ x,0≤w x) {E:List Int} (h1:E.Nodup) (h2:∀ x ∈ E,0≤x∧x<(n:Int)):totL w E≤totL w (nums_to n):=by
 have:=totL_perm w (rest_perm h1 h2).2
 rw [totL_app] at this
 have:=totL_nonneg hw ((nums_to n).filter fun x=>decide (x ∉ E))
 omega
theorem impl_LeastLateWeight.ev {jobs:List J} (hj:PlainOk jobs) {M:Int} (hM:BestW jobs.length (pT jobs) (dT jobs) (lwT jobs 8) M):Ev (fun k=>impl_LeastLateWeight.f k jobs) (totL (lwT jobs 8) (nums_to jobs.length) - M,true):=by
 have h8:=hj.1.1
 have hp:=fun x=>(pT_bd hj x).1
 have hw:=fun x=>lwT_bd hj.1 8 x
 have hsd:=sumD_in jobs (fun j hm=>(hj.1.2 j hm).1)
 obtain ⟨T,hT⟩:=Int.eq_ofNat_of_zero_le hsd.1
 have hTn:totL (pT jobs) (nums_to jobs.length)=(T:Int):=by rw [←sumD_tot,hT]
 have hM1:M≤400:=by
  obtain ⟨E,e1,e2,_,e4⟩:=hM.ex
  rw [←e4]
  have hle:=totL_le (fun x=>(hw x).2) E
  have:=nodup_sub e1 (s:=nums_to jobs.length) (fun x hx=>mem_nums_to.2 (e2 x hx))
  rw [nums_to_length] at this
  omega
 have hM0:0≤M:=hM.le [] List.nodup_nil (fun x hx=>by cases hx) trivial
 have hsh:=shl_pow jobs.length (by omega)
 have h256:2 ^ jobs.length≤256:=Nat.pow_le_pow_right (n:=2) (by omega) h8
  -- the sets one after another
 have sets:=rev_ind (P:=fun c=>∀ F:Nat→Int,(∀ k,k≤T→ -1≤F k∧F k≤M)→(∀ c',c'<c→onTimeF jobs (insAll (dueLt jobs) (bitsL c') []) 0=true→∃ k,k≤T∧totL (lwT jobs 8) (bitsL c')≤F k)→∃ F',(∀ k,k≤T→ -1≤F' k∧F' k≤M)∧(∀ c',c'<2 ^ jobs.length→onTimeF jobs (insAll (dueLt jobs) (bitsL c') []) 0=true→∃ k,k≤T∧totL (lwT jobs 8) (bitsL c')≤F' k)∧Ev (fun k=>impl_weightTable.l1 k jobs (tab F (T + 1)) (c:Int)) (tab F' (T + 1))) (2 ^ jobs.length) ?_ ?_ 0 (Nat.zero_le _) (fun _=> -1) (fun k _=>by omega) (fun c' hc'=>by omega)
 ·obtain ⟨F',f1,f2,hE⟩:=sets
  have hmax:mxW (tab F' (T + 1)) 0=M:=by
   have le:mxW (tab F' (T + 1)) 0≤M:=by
    rcases mxW_mem (tab F' (T + 1)) 0 with h|h
    ·omega
    ·obtain ⟨k,hk,e⟩:=List.getElem_of_mem h
     rw [tab_len] at hk
     rw [tab_get] at e
     have:=f1 k (by omega)
     omega
   obtain ⟨E,e1,e2,e3,e4⟩:=hM.ex
   obtain ⟨c,hc,hpm⟩:=code_of h8 e1 e2
   obtain ⟨hds,hdp⟩:=insDue jobs (bitsL c)
   have hlen:(insAll (dueLt jobs) (bitsL c) []).length≤8:=by
    rw [←hdp.length_eq];unfold bitsL
    exact Nat.le_trans (List.length_filter_le _ _) (by rw [nums_to_length];omega)
   have hf:=edd hp e3 hds (hpm.trans hdp)
   obtain ⟨k,k1,k2⟩:=f2 c hc ((onT_feas hj _ 0 (by omega) (by omega)).2 hf)
   have hge:=mxW_le (tab F' (T + 1)) 0 (F' k) (by rw [←tab_get (F:=F') (n:=T + 1) (k:=k) (by rw [tab_len];omega)];exact List.getElem_mem _)
   rw [←totL_perm _ hpm,e4] at k2
   omega
  unfold impl_LeastLateWeight.f
  refine ev_guard' (impl_IsPlain.ev jobs (by omega)) (fun _=>?_) (fun hn=>absurd hj hn)
  refine ev_bind (tab F' (T + 1)) ?_ ?_
  ·unfold impl_weightTable.f
   refine ev_bind _ (impl_totalOf.ev jobs hj.1) ?_
   rw [hT,wr (x:=(T:Int) + 1) (by omega) (by omega)]
   have fill:=rev_ind (P:=fun i=>Ev (fun k=>impl_weightTable.l0 k jobs (tab (fun _=> -1) i) ((T:Int) + 1) (i:Int)) (tab F' (T + 1))) (T + 1) ?_ ?_ 0 (Nat.zero_le _)
   ·exact fill
   ·refine ev_go _ (fun k=>?_) hE
    simp only [impl_weightTable.l0];rw [if_neg (by omega)];rfl
   ·intro i hi ih
    refine ev_go _ (fun k=>?_) ih
    simp only [impl_weightTable.l0];rw [if_pos (by omega),if_pos (by rw [tab_len];omega),wr1 (by omega),tab_snoc]
  ·have lp:=rev_ind (P:=fun i=>∀ s,0≤s→s≤1000→Ev (fun k=>impl_LeastLateWeight.l0 k jobs s (tab F' (T + 1)) ((tab F' (T + 1)).length:Int) (i:Int)) (totL (lwT jobs 8) (nums_to jobs.length) - mxW ((tab F' (T + 1)).drop i) s,true)) (tab F' (T + 1)).length ?_ ?_ 0 (Nat.zero_le _) 0 (by omega) (by omega)
   ·exact ev_eq lp (by rw [List.drop_zero,hmax])
   ·intro s s0 s1
    rw [List.drop_length,mxW]
    refine ev_go (fun k=>(impl_numbersTo.f k (jobs.length:Int)).bind fun t=>(impl_ratioOf.f k jobs t).bind fun b=>some (wrap64 (b.1 - s),true)) (fun k=>by simp only [impl_LeastLateWeight.l0];rw [if_neg (by omega)]) ?_
    have hr:=impl_ratioOf.ev jobs (nums_to jobs.length) (by rw [nums_to_length];omega) (fun x hx=>mem_nums_to.1 hx)
    have hnl:=nums_to_length jobs.length
    rw [ratio_tot hj _ 0 0 (by omega) (by omega) (by omega) (by omega),Int.zero_add,Int.zero_add] at hr
    have hb0:=totL_nonneg (fun x=>(hw x).1) (nums_to jobs.length)
    have hb1:=totL_le (fun x=>(hw x).2) (nums_to jobs.length)
    refine ev_bind _ (impl_numbersTo.ev jobs.length (by omega)) (ev_bind _ hr (ev_eq (Ev.now _) ?_))
    rw [wr (by omega) (by omega)]
   ·intro i hi ih s s0 s1
    have hl:=tab_len F' (T + 1)
    have hfi:=f1 i (by omega)
    have hgi:(tab F' (T + 1))[i]=F' i:=tab_get hi
    rw [drop_cons hi,mxW]
    refine ev_go _ (fun k=>?_) (ih _ (by rw [hgi];unfold mx;split <;> omega) (by rw [hgi];unfold mx;split <;> omega))
    simp only [impl_LeastLateWeight.l0];rw [if_pos (by omega),if_pos (by omega),if_pos (by omega),rd_nat hi,wr1 (by omega)]
 ·intro F f1 f2
  refine ⟨F,f1,f2,ev_stop fun k=>?_⟩
  simp only [impl_weightTable.l1];rw [hsh,if_neg (by omega)]
 ·intro c hc ih F f1 f2
  have hin:=bitsL_in hc
  have hnd:=bitsL_nodup c
  have hlen:(bitsL c).length≤8:=by unfold bitsL;exact Nat.le_trans (List.length_filter_le _ _) (by rw [nums_to_length];omega)
  have hlo:=impl_listOf.ev c (by omega)
  have hot:=impl_onTime.ev jobs (bitsL c) (by omega) hin
  obtain ⟨hds,hdp⟩:=insDue jobs (bitsL c)
  have hiff:=onT_feas hj (insAll (dueLt jobs) (bitsL c) []) 0 (by omega) (by rw [←hdp.length_eq];omega)
  have hra:=impl_ratioOf.ev jobs (bitsL c) (by omega) hin
  rw [ratio_tot hj (bitsL c) 0 0 (by omega) (by omega) (by omega) (by omega),Int.zero_add,Int.zero_add] at hra
  have ht0:=totL_nonneg hp (bitsL c)
  have ht1:=nodup_tot hp hnd hin
  rw [hTn] at ht1
  obtain ⟨t,ht⟩:=Int.eq_ofNat_of_zero_le ht0
  rw [ht] at hra
  by_cases q:onTimeF jobs (insAll (dueLt jobs) (bitsL c) []) 0=true
  ·have hwM:totL (lwT jobs 8) (bitsL c)≤M:=by
    rw [totL_perm _ hdp]
    exact hM.le _ (hdp.nodup_iff.1 hnd) (fun x hx=>hin x (hdp.mem_iff.2 hx)) (hiff.1 q)
   have hw0:=totL_nonneg (fun x=>(hw x).1) (bitsL c)
   have htT:t≤T:=by omega
   have ft:=f1 t htT
   obtain ⟨F',g1,g2,g3⟩:=ih (fun j=>if j=t then mx (F t) (totL (lwT jobs 8) (bitsL c)) else F j) (fun k hk=>by
    by_cases e:k=t
    ·rw [if_pos e];unfold mx;split <;> omega
    ·rw [if_neg e];exact f1 k hk) (fun c' hc' hq=>by
    by_cases e:c'=c
    ·subst e
     refine ⟨t,htT,?_⟩
     rw [if_pos rfl];unfold mx;split <;> omega
    ·obtain ⟨k,k1,k2⟩:=f2 c' (by omega) hq
     refine ⟨k,k1,?_⟩
     by_cases e2:k=t
     ·subst e2
      rw [if_pos rfl];unfold mx;split <;> omega
     ·rw [if_neg e2];exact k2)
   refine ⟨F',g1,g2,?_⟩
   refine ev_go (fun k=>(impl_listOf.f k (c:Int)).bind fun l=>(impl_onTime.f k jobs l).bind fun b=>if b=true then ((impl_ratioOf.f k jobs l).bind fun r=>if 0≤r.2 then (if r.2<((tab F (T + 1)).length:Int) then impl_weightTable.l1 k jobs ((tab F (T + 1)).set r.2.toNat (mx (rd (tab F (T + 1)) r.2) r.1)) ((c + 1:Nat):Int) else none) else none) else impl_weightTable.l1 k jobs (tab F (T + 1)) ((c + 1:Nat):Int)) (fun k=>?_) (ev_bind _ hlo (ev_bind _ hot ?_))
   ·simp only [impl_weightTable.l1];rw [hsh,if_pos (by omega),wr1 (by omega)]
   ·simp only [q,if_true]
    refine ev_bind _ hra ?_
    simp only [if_pos (show (0:Int)≤(t:Int) by omega),tab_len,if_pos (show (t:Int)<((T + 1:Nat):Int) by omega),Int.toNat_natCast,tab_set,tab_rd (F:=F) (show t<T + 1 by omega)]
    exact g3
  ·obtain ⟨F',g1,g2,g3⟩:=ih F f1 (fun c' hc' hq=>by
    by_cases e:c'=c
    ·subst e;exact absurd hq q
    ·exact f2 c' (by omega) hq)
   refine ⟨F',g1,g2,?_⟩
   refine ev_go (fun k=>(impl_listOf.f k (c:Int)).bind fun l=>(impl_onTime.f k jobs l).bind fun b=>if b=true then ((impl_ratioOf.f k jobs l).bind fun r=>if 0≤r.2 then (if r.2<((tab F (T + 1)).length:Int) then impl_weightTable.l1 k jobs ((tab F (T + 1)).set r.2.toNat (mx (rd (tab F (T + 1)) r.2) r.1)) ((c + 1:Nat):Int) else none) else none) else impl_weightTable.l1 k jobs (tab F (T + 1)) ((c + 1:Nat):Int)) (fun k=>?_) (ev_bind _ hlo (ev_bind _ hot ?_))
   ·simp only [impl_weightTable.l1];rw [hsh,if_pos (by omega),wr1 (by omega)]
   ·simp only [if_neg q];exact g3

end Go.Proofs.Ytkolecmpncaooaa.Pure
-- minified
