/- Proved here: what functions that the law FnShared reaches answer (drawT, spec_l1Cur_next, spec_l1Cur_pick, spec_l1Cur_one, spec_l1Cur_among, spec_l1Cur_job, spec_l1Cur_spoiltJob, spec_l1Cur_someJobs, spec_l1Cur_jobs, spec_l1Cur_plain3, spec_l1Cur_work7, spanSS, lengthBoth, core_WrapAround). Conditions: those that each theorem names. -/
import Derived.Test.YtbcfmegepkhlpaaQFnShareda
set_option linter.unusedVariables false
set_option linter.unusedSimpArgs false
namespace Go.Proofs.Ytbcfmegepkhlpaa.Pure
open Go.RowKit Go.Proofs.Ytbcfmegepkhlpaa.XFnShared Go.Proofs.YtbcfmegepkhlpaaW.PrintWords Go.Proofs.YtbcfmegepkhlpaaW.PrintLast

/-- The bytes of a draw. -/
def ByteL (s:List Int):Prop:=∀ x ∈ s,(Lit.int .u8 x).wf=true
theorem byte_in {x:Int} (h:(Lit.int .u8 x).wf=true):0≤x∧x≤255:=by
 simp [Lit.wf,IntKind.min,IntKind.max,IntKind.signed,IntKind.bits] at h
 omega
theorem u64_range (n:Int):0≤IntKind.u64.wrap n∧IntKind.u64.wrap n<18446744073709551616:=by
 have:IntKind.u64.wrap n=n % 18446744073709551616:=by simp [IntKind.wrap,IntKind.bits,IntKind.signed]
 rw [this];omega
theorem u64_small (n:Int) (h0:0≤n) (h1:n<2 ^ 24):IntKind.u64.wrap n=n:=by
 have:IntKind.u64.wrap n=n % 18446744073709551616:=by simp [IntKind.wrap,IntKind.bits,IntKind.signed]
 rw [this];omega
theorem u64_byte (n:Int):0≤wrap64 (Go.bits .and .u64 (IntKind.u64.wrap n / 1099511627776) 255)∧wrap64 (Go.bits .and .u64 (IntKind.u64.wrap n / 1099511627776) 255)≤255:=by
 have hr:=u64_range n
 have h:=bits_mask .u64 24 (by decide) u64_small 8 (by decide) (IntKind.u64.wrap n / 1099511627776) (by omega) (by omega)
 have h2:Go.bits .and .u64 (IntKind.u64.wrap n / 1099511627776) 255=IntKind.u64.wrap n / 1099511627776 % 256:=by simpa using h
 rw [h2,wr (by omega) (by omega)]
 omega

theorem nx {s:List Int} (hs:ByteL s) (p q:Int) (hp:0≤p) (hb:p≤1000000000000000):∃ v q',spec_l1Cur_next.f s p q=some (v,p + 1,q')∧0≤v∧v≤255:=by
 unfold spec_l1Cur_next.f
 have w:wrap64 (p + 1)=p + 1:=wr (by omega) (by omega)
 rw [w]
 by_cases c1:p<(s.length:Int)
 ·rw [if_pos c1,if_pos hp,if_pos (by omega)]
  have hm:rd s p ∈ s:=by
   rw [rd,List.getD_eq_getElem?_getD,List.getElem?_eq_getElem (by omega)]
   exact List.getElem_mem _
  have hx:=byte_in (hs _ hm)
  exact ⟨_,_,rfl,by rw [wr (by omega) (by omega)];omega,by rw [wr (by omega) (by omega)];omega⟩
 ·rw [if_neg c1,if_neg (by omega)]
  exact ⟨_,_,rfl,(u64_byte _).1,(u64_byte _).2⟩

theorem pk {s:List Int} (hs:ByteL s) (p q a:Int) (hp:0≤p) (hb:p≤900000000000000):∃ v p' q',spec_l1Cur_pick.f s p q a=some (v,p',q')∧0≤v∧(1≤a→v<a)∧p≤p'∧p'≤p + 2:=by
 unfold spec_l1Cur_pick.f
 by_cases h1:a≤1
 ·rw [if_pos h1]
  exact ⟨0,p,q,rfl,by omega,by omega,by omega,by omega⟩
 ·rw [if_neg h1]
  obtain ⟨v,q1,e1,hv0,hv1⟩:=nx hs p q hp (by omega)
  rw [e1,Option.bind_some]
  by_cases h2:a>200
  ·rw [if_pos h2]
   obtain ⟨u,q2,e2,hu0,hu1⟩:=nx hs (p + 1) q1 (by omega) (by omega)
   rw [e2,Option.bind_some,if_neg (by omega)]
   have hw:wrap64 (wrap64 (v * 256) + u)=v * 256 + u:=by rw [wr (x:=v * 256) (by omega) (by omega),wr (by omega) (by omega)]
   refine ⟨_,_,_,rfl,?_,fun _=>?_,by show p≤p + 1 + 1;omega,by show p + 1 + 1≤p + 2;omega⟩
   ·rw [hw];exact Int.tmod_nonneg _ (by omega)
   ·rw [hw];exact Int.tmod_lt_of_pos _ (by omega)
  ·rw [if_neg h2,if_neg (by omega)]
   exact ⟨_,_,_,rfl,Int.tmod_nonneg _ hv0,fun _=>Int.tmod_lt_of_pos _ (by omega),by show p≤p + 1;omega,by show p + 1≤p + 2;omega⟩

theorem on {s:List Int} (hs:ByteL s) (p q a:Int) (hp:0≤p) (hb:p≤900000000000000):∃ b p' q',spec_l1Cur_one.f s p q a=some (b,p',q')∧p≤p'∧p'≤p + 2:=by
 unfold spec_l1Cur_one.f
 obtain ⟨v,p1,q1,e,_,_,h1,h2⟩:=pk hs p q a hp hb
 rw [e,Option.bind_some]
 exact ⟨_,_,_,rfl,h1,h2⟩

theorem am {s:List Int} (hs:ByteL s) (p q:Int) (l:List Int) (hl:0<l.length) (hp:0≤p) (hb:p≤900000000000000):∃ v p' q',spec_l1Cur_among.f s p q l=some (v,p',q')∧v ∈ l∧p≤p'∧p'≤p + 2:=by
 unfold spec_l1Cur_among.f
 obtain ⟨v,p1,q1,e,h0,h3,h1,h2⟩:=pk hs p q (l.length:Int) hp hb
 have h4:=h3 (by omega)
 rw [e,Option.bind_some,if_pos h0,if_pos h4]
 refine ⟨_,_,_,rfl,?_,h1,h2⟩
 show rd l v ∈ l
 rw [rd,List.getD_eq_getElem?_getD,List.getElem?_eq_getElem (by omega)]
 exact List.getElem_mem _

theorem jb {s:List Int} (hs:ByteL s) (p q:Int) (a:Bool) (hp:0≤p) (hb:p≤800000000000000):∃ x0 x1 x2 x3 p' q',spec_l1Cur_job.f s p q a=some (x0,x1,x2,x3,p',q')∧p≤p'∧p'≤p + 8:=by
 unfold spec_l1Cur_job.f
 obtain ⟨v1,p1,q1,e1,_,h1,h2⟩:=am hs p q [1,2,3,4,5,7,9] (by simp) hp (by omega)
 rw [e1,Option.bind_some]
 obtain ⟨v2,p2,q2,e2,_,h3,h4⟩:=am hs p1 q1 [0,1,1,2,3,5,8] (by simp) (by omega) (by omega)
 simp only [e2,Option.bind_some]
 obtain ⟨v3,p3,q3,e3,_,_,h5,h6⟩:=pk hs p2 q2 24 (by omega) (by omega)
 simp only [e3,Option.bind_some]
 by_cases c:a=true
 ·rw [if_pos c]
  obtain ⟨v4,p4,q4,e4,_,_,h7,h8⟩:=pk hs p3 q3 12 (by omega) (by omega)
  simp only [e4,Option.bind_some]
  exact ⟨_,_,_,_,_,_,rfl,by omega,by omega⟩
 ·rw [if_neg c]
  exact ⟨_,_,_,_,_,_,rfl,by omega,by omega⟩

theorem sj {s:List Int} (hs:ByteL s) (p q a0 a1 a2 a3:Int) (hp:0≤p) (hb:p≤800000000000000):∃ x0 x1 x2 x3 p' q',spec_l1Cur_spoiltJob.f s p q a0 a1 a2 a3=some (x0,x1,x2,x3,p',q')∧p≤p'∧p'≤p + 8:=by
 unfold spec_l1Cur_spoiltJob.f
 obtain ⟨v,p1,q1,e1,_,_,h1,h2⟩:=pk hs p q 4 hp (by omega)
 rw [e1,Option.bind_some]
 have g:=fun (l:List Int) (hl:0<l.length)=>am hs p1 q1 l hl (by omega) (by omega)
 dsimp only
 split
 ·obtain ⟨u,p2,q2,e2,_,h3,h4⟩:=g [0,50,51,(-1),4611686018427387904] (by simp)
  rw [e2,Option.bind_some]
  exact ⟨_,_,_,_,_,_,rfl,by show p≤p2;omega,by show p2≤p + 8;omega⟩
 ·split
  ·obtain ⟨u,p2,q2,e2,_,h3,h4⟩:=g [(-1),50,51] (by simp)
   rw [e2,Option.bind_some]
   exact ⟨_,_,_,_,_,_,rfl,by show p≤p2;omega,by show p2≤p + 8;omega⟩
  ·split
   ·obtain ⟨u,p2,q2,e2,_,h3,h4⟩:=g [(-1),500,501] (by simp)
    rw [e2,Option.bind_some]
    exact ⟨_,_,_,_,_,_,rfl,by show p≤p2;omega,by show p2≤p + 8;omega⟩
   ·obtain ⟨u,p2,q2,e2,_,h3,h4⟩:=g [(-1),500,501,(-9223372036854775808)] (by simp)
    rw [e2,Option.bind_some]
    exact ⟨_,_,_,_,_,_,rfl,by show p≤p2;omega,by show p2≤p + 8;omega⟩

theorem someJobs_l1 {s:List Int} (hs:ByteL s) (a:Bool):∀ (c:Nat) (jobs:List J) (p q:Int),jobs.length≤100→9≤jobs.length + c→c≤1000→0≤p→p + 8 * c≤700000000000000→∃ r p' q',Ev (fun k=>spec_l1Cur_someJobs.l1 k a jobs s p q) (r,p',q')∧r.length≤100∧p≤p'∧p'≤p + 8 * c:=by
 intro c
 induction c with
 | zero=>
  intro jobs p q h1 h2 _ hp hb
  refine ⟨jobs,p,q,ev_stop fun k=>?_,h1,by omega,by omega⟩
  simp only [spec_l1Cur_someJobs.l1];rw [if_neg (by omega)]
 | succ c ih=>
  intro jobs p q h1 h2 h3 hp hb
  by_cases hl:(jobs.length:Int)<9
  ·obtain ⟨x0,x1,x2,x3,p1,q1,e,h4,h5⟩:=jb hs p q a hp (by omega)
   obtain ⟨r,p2,q2,hr,h6,h7,h8⟩:=ih (jobs++[⟨x0,x1,x2,x3⟩]) p1 q1 (by simp;omega) (by simp;omega) (by omega) (by omega) (by omega)
   refine ⟨r,p2,q2,ev_go _ (fun k=>?_) hr,h6,by omega,by omega⟩
   simp only [spec_l1Cur_someJobs.l1];rw [if_pos hl,e,Option.bind_some,if_pos (by omega)]
  ·refine ⟨jobs,p,q,ev_stop fun k=>?_,h1,by omega,by omega⟩
   simp only [spec_l1Cur_someJobs.l1];rw [if_neg hl]
theorem someJobs_j5 {s:List Int} (hs:ByteL s) (a:Bool) (jobs:List J) (p q:Int) (h1:jobs.length≤100) (hp:0≤p) (hb:p≤600000000000000):∃ r p' q',Ev (fun k=>spec_l1Cur_someJobs.j5 k a jobs s p q) (r,p',q')∧r.length≤100∧p≤p'∧p'≤p + 100:=by
 obtain ⟨b,p1,q1,e,h2,h3⟩:=on hs p q 60 hp (by omega)
 by_cases c:b=true
 ·obtain ⟨r,p2,q2,hr,h4,h5,h6⟩:=someJobs_l1 hs a 9 jobs p1 q1 h1 (by omega) (by omega) (by omega) (by omega)
  refine ⟨r,p2,q2,ev_go _ (fun k=>?_) hr,h4,by omega,by omega⟩
  simp only [spec_l1Cur_someJobs.j5];rw [e,Option.bind_some,if_pos c]
 ·refine ⟨jobs,p1,q1,ev_stop fun k=>?_,h1,by omega,by omega⟩
  simp only [spec_l1Cur_someJobs.j5];rw [e,Option.bind_some,if_neg c]
theorem someJobs_j4 {s:List Int} (hs:ByteL s) (a b:Bool) (jobs:List J) (p q:Int) (hne:b=true→0<jobs.length) (h1:jobs.length≤100) (hp:0≤p) (hb:p≤500000000000000):∃ r p' q',Ev (fun k=>spec_l1Cur_someJobs.j4 k a jobs b s p q) (r,p',q')∧r.length≤100∧p≤p'∧p'≤p + 120:=by
 by_cases c:b=true
 ·obtain ⟨v,p1,q1,e,h2,h3,h4,h5⟩:=pk hs p q (jobs.length:Int) hp (by omega)
  have h6:=h3 (by have:=hne c;omega)
  obtain ⟨x0,x1,x2,x3,p2,q2,e2,h7,h8⟩:=sj hs p1 q1 (rd_T76 jobs v).f0 (rd_T76 jobs v).f1 (rd_T76 jobs v).f2 (rd_T76 jobs v).f3 (by omega) (by omega)
  obtain ⟨r,p3,q3,hr,h9,h10,h11⟩:=someJobs_j5 hs a (jobs.set v.toNat ⟨x0,x1,x2,x3⟩) p2 q2 (by simpa using h1) (by omega) (by omega)
  refine ⟨r,p3,q3,ev_go _ (fun k=>?_) hr,h9,by omega,by omega⟩
  simp only [spec_l1Cur_someJobs.j4];rw [if_pos c,e,Option.bind_some,if_pos h2,if_pos h6,e2,Option.bind_some]
 ·obtain ⟨r,p3,q3,hr,h9,h10,h11⟩:=someJobs_j5 hs a jobs p q h1 (by omega) (by omega)
  refine ⟨r,p3,q3,ev_go _ (fun k=>?_) hr,h9,by omega,by omega⟩
  simp only [spec_l1Cur_someJobs.j4];rw [if_neg c]
theorem someJobs_j3 {s:List Int} (hs:ByteL s) (a:Bool) (jobs:List J) (p q:Int) (h1:jobs.length≤100) (hp:0≤p) (hb:p≤400000000000000):∃ r p' q',Ev (fun k=>spec_l1Cur_someJobs.j3 k a jobs s p q) (r,p',q')∧r.length≤100∧p≤p'∧p'≤p + 150:=by
 by_cases c:(jobs.length:Int)>0
 ·obtain ⟨b,p1,q1,e,h2,h3⟩:=on hs p q 20 hp (by omega)
  obtain ⟨r,p2,q2,hr,h4,h5,h6⟩:=someJobs_j4 hs a b jobs p1 q1 (fun _=>by omega) h1 (by omega) (by omega)
  refine ⟨r,p2,q2,ev_go _ (fun k=>?_) hr,h4,by omega,by omega⟩
  simp only [spec_l1Cur_someJobs.j3];rw [if_pos c,e,Option.bind_some]
 ·obtain ⟨r,p2,q2,hr,h4,h5,h6⟩:=someJobs_j4 hs a false jobs p q (by simp) h1 (by omega) (by omega)
  refine ⟨r,p2,q2,ev_go _ (fun k=>?_) hr,h4,by omega,by omega⟩
  simp only [spec_l1Cur_someJobs.j3];rw [if_neg c]
theorem someJobs_l0 {s:List Int} (hs:ByteL s) (a:Bool) (m:Int) (hm:m≤100):∀ (c:Nat) (n:Int) (jobs:List J) (p q:Int),n≤c→c≤1000→jobs.length≤100→0≤p→p + 8 * c≤300000000000000→∃ r p' q',Ev (fun k=>spec_l1Cur_someJobs.l0 k a m jobs n s p q) (r,p',q')∧r.length≤100∧p≤p'∧p'≤p + 8 * c + 150:=by
 intro c
 induction c with
 | zero=>
  intro n jobs p q h1 _ h2 hp hb
  obtain ⟨r,p2,q2,hr,h4,h5,h6⟩:=someJobs_j3 hs a jobs p q h2 hp (by omega)
  refine ⟨r,p2,q2,ev_go _ (fun k=>?_) hr,h4,by omega,by omega⟩
  simp only [spec_l1Cur_someJobs.l0];rw [if_neg (by omega)]
 | succ c ih=>
  intro n jobs p q h1 h3 h2 hp hb
  by_cases cn:n>0∧(jobs.length:Int)<m
  ·obtain ⟨x0,x1,x2,x3,p1,q1,e,h4,h5⟩:=jb hs p q a hp (by omega)
   obtain ⟨r,p2,q2,hr,h6,h7,h8⟩:=ih (n - 1) (jobs++[⟨x0,x1,x2,x3⟩]) p1 q1 (by omega) (by omega) (by simp;omega) (by omega) (by omega)
   refine ⟨r,p2,q2,ev_go _ (fun k=>?_) hr,h6,by omega,by omega⟩
   simp only [spec_l1Cur_someJobs.l0];rw [if_pos cn.1,if_pos cn.2,e,Option.bind_some,if_pos (by omega),wr (x:=n - 1) (by omega) (by omega)]
  ·obtain ⟨r,p2,q2,hr,h4,h5,h6⟩:=someJobs_j3 hs a jobs p q h2 hp (by omega)
   refine ⟨r,p2,q2,ev_go _ (fun k=>?_) hr,h4,by omega,by omega⟩
   simp only [spec_l1Cur_someJobs.l0]
   by_cases c1:n>0
   ·rw [if_pos c1,if_neg (fun c2=>cn ⟨c1,c2⟩)]
   ·rw [if_neg c1]
theorem spec_l1Cur_someJobs.tot {s:List Int} (hs:ByteL s) (a:Bool) (m p q:Int) (hm:m≤100) (hp:0≤p) (hb:p≤200000000000000):∃ r p' q',Ev (fun k=>spec_l1Cur_someJobs.f k s p q a m) (r,p',q')∧r.length≤100∧p≤p'∧p'≤p + 300:=by
 unfold spec_l1Cur_someJobs.f
 simp only [Option.bind_some]
 obtain ⟨v,p1,q1,e1,hv,h1,h2⟩:=am hs p q [3,4,5,2,6,1,0] (by simp) hp (by omega)
 simp only [e1,Option.bind_some]
 have hv6:v≤6:=by simp at hv;omega
 have J1:=fun (n p q:Int) (hn:n≤8) (hp:0≤p) (hb:p≤250000000000000)=>someJobs_l0 hs a m hm 8 n [] p q hn (by omega) (by simp) hp (by omega)
 by_cases c:m>6
 ·simp only [if_pos c]
  obtain ⟨b,p2,q2,e2,h3,h4⟩:=on hs p1 q1 6 (by omega) (by omega)
  simp only [e2,Option.bind_some]
  by_cases cb:b=true
  ·obtain ⟨u,p3,q3,e3,h5,h6,h7,h8⟩:=pk hs p2 q2 2 (by omega) (by omega)
   have h9:=h6 (by omega)
   obtain ⟨r,p4,q4,hr,h10,h11,h12⟩:=J1 (7 + u) p3 q3 (by omega) (by omega) (by omega)
   refine ⟨r,p4,q4,ev_go (fun k=>spec_l1Cur_someJobs.j1 k a m [] (7 + u) s p3 q3) (fun k=>?_) (ev_go _ (fun k=>by simp only [spec_l1Cur_someJobs.j1]) hr),h10,by omega,by omega⟩
   simp only [spec_l1Cur_someJobs.j0];rw [if_pos cb,e3,Option.bind_some,wr (x:=7 + u) (by omega) (by omega)]
  ·obtain ⟨r,p4,q4,hr,h10,h11,h12⟩:=J1 v p2 q2 (by omega) (by omega) (by omega)
   refine ⟨r,p4,q4,ev_go (fun k=>spec_l1Cur_someJobs.j1 k a m [] v s p2 q2) (fun k=>?_) (ev_go _ (fun k=>by simp only [spec_l1Cur_someJobs.j1]) hr),h10,by omega,by omega⟩
   simp only [spec_l1Cur_someJobs.j0];rw [if_neg cb]
 ·simp only [if_neg c]
  obtain ⟨r,p4,q4,hr,h10,h11,h12⟩:=J1 v p1 q1 (by omega) (by omega) (by omega)
  refine ⟨r,p4,q4,ev_go (fun k=>spec_l1Cur_someJobs.j1 k a m [] v s p1 q1) (fun k=>?_) (ev_go _ (fun k=>by simp only [spec_l1Cur_someJobs.j1]) hr),h10,by omega,by omega⟩
  simp only [spec_l1Cur_someJobs.j0];rw [if_neg (by simp)]

theorem spec_l1Cur_jobs.tot {s:List Int} (hs:ByteL s) (p q:Int) (hp:0≤p) (hb:p≤100000000000000):∃ r p' q',Ev (fun k=>spec_l1Cur_jobs.f k s p q) (r,p',q')∧r.length≤100∧p≤p'∧p'≤p + 400:=by
 unfold spec_l1Cur_jobs.f
 obtain ⟨b,p1,q1,e,h1,h2⟩:=on hs p q 2 hp (by omega)
 simp only [e,Option.bind_some]
 obtain ⟨r,p2,q2,hr,h3,h4,h5⟩:=spec_l1Cur_someJobs.tot hs b 6 p1 q1 (by omega) (by omega) (by omega)
 exact ⟨r,p2,q2,ev_bind _ hr (Ev.now _),h3,by omega,by omega⟩

def pl1 (x:List J) (i:Int):List J:=x.set i.toNat ⟨(rd_T76 x i).f0,(rd_T76 x i).f1,0,(rd_T76 x i).f3⟩
def pl2 (x:List J) (i:Int):List J:=x.set i.toNat ⟨(rd_T76 x (wrap64 (i - 1))).f0,(rd_T76 x i).f1,(rd_T76 x i).f2,(rd_T76 x i).f3⟩
def pl3 (x:List J) (i:Int):List J:=x.set i.toNat ⟨(rd_T76 x i).f0,(rd_T76 x (wrap64 (i - 1))).f1,(rd_T76 x i).f2,(rd_T76 x i).f3⟩
theorem plain3_l0 {s:List Int} (hs:ByteL s):∀ (c i:Nat) (jobs:List J) (p q:Int),jobs.length=i + c→jobs.length≤100→0≤p→p + 2 * c≤90000000000000→∃ r p' q',Ev (fun k=>spec_l1Cur_plain3.l0 k jobs (i:Int) s p q) (r,p',q')∧r.length≤100∧p≤p'∧p'≤p + 2 * c:=by
 intro c
 induction c with
 | zero=>
  intro i jobs p q h1 h2 hp hb
  refine ⟨jobs,p,q,ev_stop fun k=>?_,h2,by omega,by omega⟩
  simp only [spec_l1Cur_plain3.l0];rw [if_neg (by omega)]
 | succ c ih=>
  intro i jobs p q h1 h2 hp hb
  by_cases c0:(i:Int)>0
  ·obtain ⟨b,p1,q1,e,h3,h4⟩:=on hs p q 3 hp (by omega)
   have w1:wrap64 ((i:Int) - 1)=(i:Int) - 1:=wr (by omega) (by omega)
   by_cases cb:b=true
   ·obtain ⟨r,p2,q2,hr,h5,h6,h7⟩:=ih (i + 1) (pl3 (pl2 (pl1 jobs i) i) i) p1 q1 (by simp [pl1,pl2,pl3];omega) (by simp [pl1,pl2,pl3];omega) (by omega) (by omega)
    refine ⟨r,p2,q2,ev_go _ (fun k=>?_) hr,h5,by omega,by omega⟩
    simp only [spec_l1Cur_plain3.l0]
    rw [if_pos (by omega),if_pos (by omega),Option.bind_some,if_pos c0,e,Option.bind_some,if_pos cb,if_pos (by omega),if_pos (by omega),Option.bind_some,wr1 (by omega)]
    rfl
   ·obtain ⟨r,p2,q2,hr,h5,h6,h7⟩:=ih (i + 1) (pl1 jobs i) p1 q1 (by simp [pl1];omega) (by simp [pl1];omega) (by omega) (by omega)
    refine ⟨r,p2,q2,ev_go _ (fun k=>?_) hr,h5,by omega,by omega⟩
    simp only [spec_l1Cur_plain3.l0]
    rw [if_pos (by omega),if_pos (by omega),Option.bind_some,if_pos c0,e,Option.bind_some,if_neg cb,wr1 (by omega)]
    rfl
  ·obtain ⟨r,p2,q2,hr,h5,h6,h7⟩:=ih (i + 1) (pl1 jobs i) p q (by simp [pl1];omega) (by simp [pl1];omega) (by omega) (by omega)
   refine ⟨r,p2,q2,ev_go _ (fun k=>?_) hr,h5,by omega,by omega⟩
   simp only [spec_l1Cur_plain3.l0]
   rw [if_pos (by omega),if_pos (by omega),Option.bind_some,if_neg c0,wr1 (by omega)]
   rfl
theorem spec_l1Cur_plain3.tot {s:List Int} (hs:ByteL s) (p q:Int) (hp:0≤p) (hb:p≤10000000000000):∃ r p' q',Ev (fun k=>spec_l1Cur_plain3.f k s p q) (r,p',q')∧r.length≤100∧p≤p'∧p'≤p + 1000:=by
 unfold spec_l1Cur_plain3.f
 obtain ⟨r,p1,q1,hr,h1,h2,h3⟩:=spec_l1Cur_jobs.tot hs p q hp (by omega)
 obtain ⟨b,p2,q2,e,h4,h5⟩:=on hs p1 q1 24 (by omega) (by omega)
 by_cases cb:b=true
 ·exact ⟨r,p2,q2,ev_bind _ hr (by simp only [e,Option.bind_some,if_pos cb];exact Ev.now _),h1,by omega,by omega⟩
 ·obtain ⟨r2,p3,q3,hr2,h6,h7,h8⟩:=plain3_l0 hs r.length 0 r p2 q2 (by omega) h1 (by omega) (by omega)
  exact ⟨r2,p3,q3,ev_bind _ hr (by simp only [e,Option.bind_some,if_neg cb];exact hr2),h6,by omega,by omega⟩

theorem work7_l0 {s:List Int} (hs:ByteL s):∀ (c i:Nat) (jobs:List J) (p q:Int),jobs.length=i + c→jobs.length≤100→0≤p→p + 4 * c≤90000000000000→∃ r p' q',Ev (fun k=>spec_l1Cur_work7.l0 k jobs (i:Int) s p q) (r,p',q')∧r.length≤100∧p≤p'∧p'≤p + 4 * c:=by
 intro c
 induction c with
 | zero=>
  intro i jobs p q h1 h2 hp hb
  refine ⟨jobs,p,q,ev_stop fun k=>?_,h2,by omega,by omega⟩
  simp only [spec_l1Cur_work7.l0];rw [if_neg (by omega)]
 | succ c ih=>
  intro i jobs p q h1 h2 hp hb
  obtain ⟨b,p1,q1,e,h3,h4⟩:=on hs p q 4 hp (by omega)
  by_cases cb:b=true
  ·refine ⟨jobs,p1,q1,ev_stop fun k=>?_,h2,by omega,by omega⟩
   simp only [spec_l1Cur_work7.l0];rw [if_pos (by omega),e,Option.bind_some,if_pos cb]
  ·obtain ⟨v,p2,q2,e2,_,h5,h6⟩:=am hs p1 q1 [1,1,2,3,4,7] (by simp) (by omega) (by omega)
   obtain ⟨r,p3,q3,hr,h7,h8,h9⟩:=ih (i + 1) (jobs.set (i:Int).toNat ⟨v,(rd_T76 jobs i).f1,(rd_T76 jobs i).f2,(rd_T76 jobs i).f3⟩) p2 q2 (by simp;omega) (by simp;omega) (by omega) (by omega)
   refine ⟨r,p3,q3,ev_go _ (fun k=>?_) hr,h7,by omega,by omega⟩
   simp only [spec_l1Cur_work7.l0]
   rw [if_pos (by omega),e,Option.bind_some,if_neg cb,e2,Option.bind_some,if_pos (by omega),wr1 (by omega)]
theorem spec_l1Cur_work7.tot {s:List Int} (hs:ByteL s) (p q:Int) (hp:0≤p) (hb:p≤1000000000000):∃ r p' q',Ev (fun k=>spec_l1Cur_work7.f k s p q) (r,p',q')∧r.length≤100∧p≤p'∧p'≤p + 2000:=by
 unfold spec_l1Cur_work7.f
 obtain ⟨r,p1,q1,hr,h1,h2,h3⟩:=spec_l1Cur_plain3.tot hs p q hp (by omega)
 obtain ⟨r2,p3,q3,hr2,h6,h7,h8⟩:=work7_l0 hs r.length 0 r p1 q1 (by omega) h1 (by omega) (by omega)
 exact ⟨r2,p3,q3,ev_bind _ hr hr2,h6,by omega,by omega⟩

theorem rdLSS {l:List (List PSpan)} {i:Nat} (h:i<l.length):rd_L7 l (i:Int)=l[i]:=by simp [rd_L7,h]

def sumD:List J→Int
 | []=>0
 | x::xs=>x.f0 + sumD xs
theorem sumD_in:∀ (l:List J),(∀ j ∈ l,1≤j.f0∧j.f0≤50)→0≤sumD l∧sumD l≤50 * (l.length:Int)
 | [],_=>by simp [sumD]
 | x::xs,h=>by
  have h1:=h x List.mem_cons_self
  have h2:=sumD_in xs (fun j hj=>h j (List.mem_cons_of_mem _ hj))
  simp only [sumD,List.length_cons];omega
theorem spec_l2Times.ev (jobs:List J) (hj:JobsOk jobs):Ev (fun k=>spec_l2Times.f k jobs) (sumD jobs):=by
 have h8:=hj.1
 have key:=rev_ind (P:=fun i=>∀ s:Int,0≤s→s≤50 * (i:Int)→Ev (fun k=>spec_l2Times.l0 k jobs s (i:Int)) (s + sumD (jobs.drop i))) jobs.length ?_ ?_ 0 (Nat.zero_le _) 0 (by omega) (by omega)
 ·simpa [spec_l2Times.f] using key
 ·intro s _ _
  refine ev_stop fun k=>?_
  simp only [spec_l2Times.l0];rw [if_neg (by omega),List.drop_length,sumD,Int.add_zero]
 ·intro i hi ih s h0 h1
  have ht:=(hj.2 _ (List.getElem_mem hi)).1
  rw [drop_cons hi,sumD,←Int.add_assoc]
  refine ev_go _ (fun k=>?_) (ih (s + jobs[i].f0) (by omega) (by omega))
  simp only [spec_l2Times.l0];rw [if_pos (by omega),if_pos (by omega),rdJ hi,wr (x:=s + jobs[i].f0) (by omega) (by omega),wr1 (by omega)]
theorem impl_totalOf.ev (jobs:List J) (hj:JobsOk jobs):Ev (fun k=>impl_totalOf.f k jobs) (sumD jobs):=by
 have h8:=hj.1
 have key:=rev_ind (P:=fun i=>∀ s:Int,0≤s→s≤50 * (i:Int)→Ev (fun k=>impl_totalOf.l0 k s jobs (jobs.length:Int) (i:Int)) (s + sumD (jobs.drop i))) jobs.length ?_ ?_ 0 (Nat.zero_le _) 0 (by omega) (by omega)
 ·simpa [impl_totalOf.f] using key
 ·intro s _ _
  refine ev_stop fun k=>?_
  simp only [impl_totalOf.l0];rw [if_neg (by omega),List.drop_length,sumD,Int.add_zero]
 ·intro i hi ih s h0 h1
  have ht:=(hj.2 _ (List.getElem_mem hi)).1
  rw [drop_cons hi,sumD,←Int.add_assoc]
  refine ev_go _ (fun k=>?_) (ih (s + jobs[i].f0) (by omega) (by omega))
  simp only [impl_totalOf.l0];rw [if_pos (by omega),if_pos (by omega),if_pos (by omega),rdJ hi,wr (x:=s + jobs[i].f0) (by omega) (by omega),wr1 (by omega)]
theorem impl_ceilDiv.eq (T m:Int) (h0:0≤T) (h1:T≤1000000) (hm:1≤m∧m≤4):impl_ceilDiv.f T m=some ((T + m - 1) / m):=by
 unfold impl_ceilDiv.f impl_floorDiv.f
 rw [wr (x:= -T) (by omega) (by omega),if_neg (by omega),Int.neg_tmod,Int.neg_tdiv,Int.tmod_eq_emod_of_nonneg h0,Int.tdiv_eq_ediv_of_nonneg h0]
 obtain ⟨q,hq⟩:∃ q,q=T / m:=⟨_,rfl⟩
 obtain ⟨e,he⟩:∃ e,e=T % m:=⟨_,rfl⟩
 rw [←hq,←he]
 have hqe:0≤q∧q≤T∧0≤e∧(e=0→(T + m - 1) / m=q)∧(0<e→(T + m - 1) / m=q + 1):=by
  have hc:m=1∨m=2∨m=3∨m=4:=by omega
  rcases hc with rfl|rfl|rfl|rfl <;> omega
 obtain ⟨q1,q2,q3,q4,q5⟩:=hqe
 clear hq he
 rw [wr (x:= -q) (by omega) (by omega)]
 by_cases c : -e<0
 ·rw [if_pos c,wr (x:= -q - 1) (by omega) (by omega),Option.bind_some,wr (x:= -(-q - 1)) (by omega) (by omega),q5 (by omega)]
  congr 1;omega
 ·rw [if_neg c,Option.bind_some,wr (x:= -(-q)) (by omega) (by omega),q4 (by omega)]
  congr 1;omega
def lenF (jobs:List J) (m:Int) (E:List A2):Int:=mx (mxW (tailsL jobs (cloF jobs.length E)) 0) ((sumD jobs + m - 1) / m)
theorem ceil_ge (T m:Int) (hm:1≤m∧m≤4):T≤(T + m - 1) / m * m:=by
 have hc:m=1∨m=2∨m=3∨m=4:=by omega
 rcases hc with rfl|rfl|rfl|rfl <;> omega
theorem ceil_le (T m:Int) (h0:0≤T) (hm:1≤m∧m≤4):0≤(T + m - 1) / m∧(T + m - 1) / m≤T + 3∧(1≤T→1≤(T + m - 1) / m):=by
 have hc:m=1∨m=2∨m=3∨m=4:=by omega
 rcases hc with rfl|rfl|rfl|rfl <;> omega
theorem job_times (jobs:List J) (hj:JobsOk jobs):∀ j ∈ jobs,1≤j.f0∧j.f0≤50:=fun j h=>(hj.2 j h).1
theorem spec_l7Bound.ev (jobs:List J) (m:Int) (E:List A2) (hj:JobsOk jobs) (h:PrecOk (jobs.length:Int) E) (hm:1≤m∧m≤4):Ev (fun k=>spec_l7Bound.f k jobs m E) (lenF jobs m E):=by
 have hs:=sumD_in jobs (job_times jobs hj)
 have h8:=hj.1
 have hc:=ceil_le (sumD jobs) m hs.1 hm
 unfold spec_l7Bound.f
 refine ev_bind _ (spec_l7Tails.ev jobs E hj h) (ev_bind _ (spec_l2Last.ev _ (by rw [tailsL_len];omega)) (ev_bind _ (spec_l2Times.ev jobs hj) ?_))
 rw [wr (x:=sumD jobs + m) (by omega) (by omega),wr (x:=sumD jobs + m - 1) (by omega) (by omega),Int.tdiv_eq_ediv_of_nonneg (by omega),wr (x:=(sumD jobs + m - 1) / m) (by omega) (by omega),spec_l1Most.eq]
 simp only [if_neg (show ¬ m=0 by omega),Option.bind_some]
 exact Ev.now _
theorem impl_lengthBound.ev (jobs:List J) (m:Int) (E:List A2) (hj:JobsOk jobs) (h:PrecOk (jobs.length:Int) E) (hm:1≤m∧m≤4):Ev (fun k=>impl_lengthBound.f k jobs m E) (lenF jobs m E):=by
 have hs:=sumD_in jobs (job_times jobs hj)
 have h8:=hj.1
 unfold impl_lengthBound.f
 refine ev_bind _ (impl_tailsOf.ev jobs E hj h) (ev_bind _ (impl_greatestOf.ev _ (by rw [tailsL_len];omega)) (ev_bind _ (impl_totalOf.ev jobs hj) ?_))
 rw [impl_ceilDiv.eq _ _ hs.1 (by omega) hm]
 exact Ev.now _

theorem mxW_at2:∀ (l:List Int) (s:Int),mxW l s=s∨mxW l s ∈ l
 | [],_=>.inl rfl
 | x::l,s=>by
  rw [mxW]
  rcases mxW_at2 l (mx s x) with h|h
  ·rcases (mx_ge2 s x).2.2 with e|e
   ·exact .inl (h.trans e)
   ·exact .inr (by rw [h,e];exact List.mem_cons_self)
  ·exact .inr (List.mem_cons_of_mem _ h)
theorem mn_eq (a b:Int):mn a b=if a<b then a else b:=by unfold mn;split <;> split <;> omega
/-- Where both walks stand: the reference's machine and time, and the program's. -/
structure WaInv (n m:Nat) (L T:Int) (out:List (List PSpan)) (C P:Int) (a:Nat) (st im it:Int):Prop where
 len:out.length=m
 row:∀ y ∈ out,(y.length:Int)≤C
 c0:0≤C∧C≤T
 eq:C=P + st
 hP:P=(a:Int) * L
 hst:0≤st∧st<L
 rel:(im=(a:Int)∧it=st)∨(it=L∧(a:Int)=im + 1∧st=0∧0≤im)
theorem wa_lt {a m:Nat} {L P C T st:Int} (hP:P=(a:Int) * L) (h:C=P + st) (h0:0≤st) (hC:C<T) (hT:T≤(m:Int) * L) (hL:1≤L):a<m:=by
 apply Nat.lt_of_not_le
 intro hma
 have h1:(m:Int) * L≤(a:Int) * L:=Int.mul_le_mul_of_nonneg_right (by omega) (by omega)
 omega
theorem WaInv.next {n m:Nat} {L T C P st im it p:Int} {out out':List (List PSpan)} {a:Nat} (hI:WaInv n m L T out C P a st im it) (hlen:out'.length=m) (hrow:∀ y ∈ out',(y.length:Int)≤C + p) (hp:1≤p) (hT:C + p≤T) (hs:st + p<L):WaInv n m L T out' (C + p) P a (st + p) (a:Int) (st + p):=by
 obtain ⟨_,_,h3,h4,h5,h6,_⟩:=hI
 refine ⟨hlen,hrow,?_,?_,h5,?_,.inl ⟨rfl,rfl⟩⟩
 ·exact ⟨by omega,hT⟩
 ·rw [h4,Int.add_assoc]
 ·exact ⟨by omega,hs⟩
theorem WaInv.wrap {n m:Nat} {L T C P st im it p:Int} {out out':List (List PSpan)} {a:Nat} (hI:WaInv n m L T out C P a st im it) (hlen:out'.length=m) (hrow:∀ y ∈ out',(y.length:Int)≤C + p) (hp:1≤p) (hT:C + p≤T) (hE:st + p=L):WaInv n m L T out' (C + p) (P + L) (a + 1) 0 (a:Int) (st + p):=by
 obtain ⟨_,_,h3,h4,h5,h6,_⟩:=hI
 have e:((a + 1:Nat):Int)=(a:Int) + 1:=by omega
 refine ⟨hlen,hrow,?_,?_,?_,?_,.inr ⟨hE,e,rfl,by omega⟩⟩
 ·exact ⟨by omega,hT⟩
 ·rw [h4,Int.add_zero,Int.add_assoc,hE]
 ·rw [e,h5,Int.add_mul,Int.one_mul]
 ·exact ⟨by omega,by omega⟩
theorem wa_l1 (jobs:List J) (n m:Nat) (hm:m≤4) (L T:Int) (hL:1≤L∧L≤100000) (hT0:T≤1000) (hT:T≤(m:Int) * L) (i:Nat) (hi:i<1000) (left:Int) (hleft:0≤left) (Good:List (List PSpan) × Bool→Prop)
  (next:∀ (out:List (List PSpan)) (C P:Int) (a:Nat) (st im it:Int),WaInv n m L T out C P a st im it→C + left=T→∃ R,Ev (fun k=>spec_WrapAround.l0 k jobs L out (a:Int) st ((i + 1:Nat):Int)) R∧Ev (fun k=>impl_WrapAround.l0 k L out im it jobs (jobs.length:Int) ((i + 1:Nat):Int)) R∧Good R) :
  ∀ (c:Nat) (r:Int) (out:List (List PSpan)) (C P:Int) (a:Nat) (st im it:Int),r≤c→0≤r→WaInv n m L T out C P a st im it→C + r + left=T→∃ R,Ev (fun k=>spec_WrapAround.l1 k jobs L out (a:Int) st (i:Int) r) R∧Ev (fun k=>impl_WrapAround.l1 k L out im it (i:Int) r jobs (jobs.length:Int) (i:Int)) R∧Good R:=by
 intro c
 induction c with
 | zero=>
  intro r out C P a st im it h1 h2 hI hC
  obtain ⟨R,e1,e2,hG⟩:=next out C P a st im it hI (by omega)
  refine ⟨R,ev_go _ (fun k=>?_) e1,ev_go _ (fun k=>?_) e2,hG⟩
  ·simp only [spec_WrapAround.l1];rw [if_neg (by omega),wr1 (by omega)]
  ·simp only [impl_WrapAround.l1];rw [if_neg (by omega),wr1 (by omega)]
 | succ c ih=>
  intro r out C P a st im it h1 h2 hI hC
  by_cases hr:r>0
  ·have hI0:=hI
   obtain ⟨i1,i2,i3,i4,i5,i6,i7⟩:=hI
   have ha:a<m:=wa_lt i5 i4 i6.1 (by omega) hT hL.1
   have hal:a<out.length:=by omega
   obtain ⟨p,hp⟩:∃ p,p=if r<L - st then r else L - st:=⟨_,rfl⟩
   have hp1:1≤p∧p≤r∧st + p≤L:=by subst hp;split <;> omega
   have hrow:rd_L7 out (a:Int)=out[a]:=rdLSS hal
   have hrl:((rd_L7 out (a:Int)).length:Int)≤C:=by rw [hrow];exact i2 _ (List.getElem_mem hal)
   have w1:=Aside0.mk (show wrap64 (L - st)=L - st from wr (by omega) (by omega))
   have w2:=Aside0.mk (show wrap64 (st + p)=st + p from wr (by omega) (by omega))
   have w3:=Aside0.mk (show wrap64 (r - p)=r - p from wr (by omega) (by omega))
   have w4:=Aside0.mk (show wrap64 ((a:Int) + 1)=((a + 1:Nat):Int) from by rw [wr (by omega) (by omega)];omega)
   have hls:spec_l1Least.f r (L - st)=some p:=by unfold spec_l1Least.f;rw [hp];split <;> rfl
   have hmn:=Aside0.mk (show mn r (L - st)=p from by rw [mn_eq,hp])
   obtain ⟨out',ho⟩:∃ o,o=out.set a ((rd_L7 out (a:Int))++[(⟨(i:Int),st,st + p⟩:PSpan)]):=⟨_,rfl⟩
   have hlen':out'.length=m:=by rw [ho];simpa using i1
   have hrow':∀ y ∈ out',(y.length:Int)≤C + p:=by
    intro y hy
    rw [ho] at hy
    rcases List.mem_or_eq_of_mem_set hy with hy|hy
    ·have:=i2 y hy;omega
    ·rw [hy,List.length_append];simp;omega
      -- the program's step
   have stepI:∀ k,impl_WrapAround.l1 (k + 1) L out im it (i:Int) r jobs (jobs.length:Int) (i:Int)=impl_WrapAround.l1 k L out' (a:Int) (st + p) (i:Int) (r - p) jobs (jobs.length:Int) (i:Int):=fun k=>by
    rcases i7 with ⟨q1,q2⟩ | ⟨q1,q2,q3,q4⟩
    ·subst q1 q2
     simp only [impl_WrapAround.l1]
     rw [if_pos hr,if_neg (by omega),if_pos (by omega),if_pos (by omega),if_pos (by omega),w1.out,hmn.out,w2.out,w3.out,Int.toNat_natCast,←ho]
    ·subst q1 q3
     have w5:=Aside0.mk (show wrap64 (im + 1)=(a:Int) from by rw [wr (by omega) (by omega)];omega)
     simp only [impl_WrapAround.l1]
     rw [if_pos hr,if_pos trivial,w5.out,if_pos (by omega),if_pos (by omega),if_pos (by omega),w1.out,hmn.out,w2.out,w3.out,Int.toNat_natCast,←ho]
   by_cases hE:st + p=L
   ·have hI':WaInv n m L T out' (C + p) (P + L) (a + 1) 0 (a:Int) (st + p):=WaInv.wrap hI0 hlen' hrow' hp1.1 (by omega) hE
    obtain ⟨R,e1,e2,hG⟩:=ih (r - p) out' (C + p) (P + L) (a + 1) 0 (a:Int) (st + p) (by omega) (by omega) hI' (by omega)
    refine ⟨R,ev_go _ (fun k=>?_) e1,ev_go _ stepI e2,hG⟩
    simp only [spec_WrapAround.l1]
    rw [if_pos hr,w1.out,hls,Option.bind_some,if_pos (by omega),if_pos (by omega),if_pos (by omega),if_pos (by omega),Option.bind_some,w2.out,w3.out,w4.out,if_pos hE,Int.toNat_natCast,←ho]
   ·have hI':WaInv n m L T out' (C + p) P a (st + p) (a:Int) (st + p):=WaInv.next hI0 hlen' hrow' hp1.1 (by omega) (by omega)
    obtain ⟨R,e1,e2,hG⟩:=ih (r - p) out' (C + p) P a (st + p) (a:Int) (st + p) (by omega) (by omega) hI' (by omega)
    refine ⟨R,ev_go _ (fun k=>?_) e1,ev_go _ stepI e2,hG⟩
    simp only [spec_WrapAround.l1]
    rw [if_pos hr,w1.out,hls,Option.bind_some,if_pos (by omega),if_pos (by omega),if_pos (by omega),if_pos (by omega),Option.bind_some,w2.out,w3.out,if_neg hE,Int.toNat_natCast,←ho]
  ·obtain ⟨R,e1,e2,hG⟩:=next out C P a st im it hI (by omega)
   refine ⟨R,ev_go _ (fun k=>?_) e1,ev_go _ (fun k=>?_) e2,hG⟩
   ·simp only [spec_WrapAround.l1];rw [if_neg hr,wr1 (by omega)]
   ·simp only [impl_WrapAround.l1];rw [if_neg hr,wr1 (by omega)]
theorem wa_l0 (jobs:List J) (hj:JobsOk jobs) (m:Nat) (hm:m≤4) (L T:Int) (hL:1≤L∧L≤100000) (hT0:T≤1000) (hT:T≤(m:Int) * L):∀ (c i:Nat) (out:List (List PSpan)) (C P:Int) (a:Nat) (st im it:Int),i + c=jobs.length→WaInv jobs.length m L T out C P a st im it→C + sumD (jobs.drop i)=T→∃ R,Ev (fun k=>spec_WrapAround.l0 k jobs L out (a:Int) st (i:Int)) R∧Ev (fun k=>impl_WrapAround.l0 k L out im it jobs (jobs.length:Int) (i:Int)) R∧(R.1.length=m∧∀ y ∈ R.1,(y.length:Int)≤1000)∧R.2=true:=by
 have h8:=hj.1
 intro c
 induction c with
 | zero=>
  intro i out C P a st im it h1 hI _
  refine ⟨(out,true),ev_stop fun k=>?_,ev_stop fun k=>?_,⟨hI.len,fun y hy=>by have:=hI.row y hy;have:=hI.c0;omega⟩,rfl⟩
  ·simp only [spec_WrapAround.l0];rw [if_neg (by omega)]
  ·simp only [impl_WrapAround.l0];rw [if_neg (by omega)]
 | succ c ih=>
  intro i out C P a st im it h1 hI hC
  have hi:i<jobs.length:=by omega
  have ht:=(hj.2 _ (List.getElem_mem hi)).1
  have hs:=sumD_in (jobs.drop (i + 1)) (fun j h=>job_times jobs hj j (List.mem_of_mem_drop h))
  rw [drop_cons hi,sumD] at hC
  obtain ⟨R,e1,e2,hG⟩:=wa_l1 jobs jobs.length m hm L T hL hT0 hT i (by omega) (sumD (jobs.drop (i + 1))) hs.1 (fun R=>(R.1.length=m∧∀ y ∈ R.1,(y.length:Int)≤1000)∧R.2=true) (fun out C P a st im it hI hC=>ih (i + 1) out C P a st im it (by omega) hI hC) jobs[i].f0.toNat jobs[i].f0 out C P a st im it (by omega) (by omega) hI (by omega)
  refine ⟨R,ev_go _ (fun k=>?_) e1,ev_go _ (fun k=>?_) e2,hG⟩
  ·simp only [spec_WrapAround.l0];rw [if_pos (by omega),if_pos (by omega),rdJ hi]
  ·simp only [impl_WrapAround.l0];rw [if_pos (by omega),if_pos (by omega),if_pos (by omega),rdJ hi]
theorem core_WrapAround (jobs:List J) (m:Int) (hj:jobs.length≤1048576) (hw:(Lit.int .i64 m).wf=true):∃ r b,Ev (fun k=>spec_WrapAround.f k jobs m) (r,b)∧Ev (fun k=>impl_WrapAround.f k jobs m) (r,b)∧r.length≤1048576∧∀ y ∈ r,y.length≤1048576:=by
 unfold spec_WrapAround.f impl_WrapAround.f
 have es:=spec_l7Good.ev jobs m [] hj (by simp)
 have ei:=impl_isParallel.ev jobs m [] hj (by simp)
 by_cases h:ParOk jobs m []
 ·have hm:=h.2.1
  have hJ:=h.1.1
  have h8:=hJ.1
  have hs:=sumD_in jobs (job_times jobs hJ)
  have e1:=spec_l7Bound.ev jobs m [] hJ h.2.2 hm
  have e2:=impl_lengthBound.ev jobs m [] hJ h.2.2 hm
  have hc:=ceil_le (sumD jobs) m hs.1 hm
  have hg:=ceil_ge (sumD jobs) m hm
  have hmw:mxW (tailsL jobs (cloF jobs.length [])) 0≤400:=by
   rcases mxW_at2 (tailsL jobs (cloF jobs.length [])) 0 with e|e
   ·omega
   ·obtain ⟨i,hi,e⟩:=List.mem_map.1 e
    rw [←e];exact (TL_pos jobs hJ h.pre i (List.mem_range.1 hi)).2.2
  have hLx:(sumD jobs + m - 1) / m≤lenF jobs m []∧lenF jobs m []≤1000:=by
   unfold lenF
   have:=mx_ge2 (mxW (tailsL jobs (cloF jobs.length [])) 0) ((sumD jobs + m - 1) / m)
   omega
  have hmN:(m.toNat:Int)=m:=Int.toNat_of_nonneg (by omega)
  by_cases h0:jobs.length=0
  ·have hz:∀ o:List (List PSpan),Ev (fun k=>spec_WrapAround.l0 k jobs (lenF jobs m []) o 0 0 0) (o,true)∧Ev (fun k=>impl_WrapAround.l0 k (lenF jobs m []) o 0 0 jobs (jobs.length:Int) 0) (o,true):=fun o=>⟨ev_stop fun k=>by simp only [spec_WrapAround.l0];rw [if_neg (by omega)],ev_stop fun k=>by simp only [impl_WrapAround.l0];rw [if_neg (by omega)]⟩
   refine ⟨List.replicate m.toNat [],true,ev_guard' es (fun _=>ev_bind _ e1 ?_) (fun hn=>absurd h hn),ev_guard' ei (fun _=>ev_bind _ e2 ?_) (fun hn=>absurd h hn),by simp;omega,fun y hy=>by rw [(List.mem_replicate.1 hy).2];simp⟩
   ·simp only [if_pos (show 0≤m by omega),if_pos (show m.toNat≤11728124029610 by omega)]
    exact (hz _).1
   ·simp only [if_pos (show 0≤m by omega),if_pos (show m.toNat≤11728124029610 by omega)]
    exact (hz _).2
  ·have hpos:1≤sumD jobs:=by
    cases hjl:jobs with
    | nil=>rw [hjl] at h0;simp at h0
    | cons x xs=>
     have h1:=job_times jobs hJ x (by rw [hjl];exact List.mem_cons_self)
     have h2:=sumD_in xs (fun j hx=>job_times jobs hJ j (by rw [hjl];exact List.mem_cons_of_mem _ hx))
     rw [sumD];omega
   have hT:sumD jobs≤(m.toNat:Int) * lenF jobs m []:=by
    rw [hmN]
    have h1:(sumD jobs + m - 1) / m * m≤lenF jobs m [] * m:=Int.mul_le_mul_of_nonneg_right hLx.1 (by omega)
    rw [Int.mul_comm m]
    omega
   obtain ⟨R,s1,s2,⟨g1,g2⟩,g3⟩:=wa_l0 jobs hJ m.toNat (by omega) (lenF jobs m []) (sumD jobs) (by omega) (by omega) hT jobs.length 0 (List.replicate m.toNat []) 0 0 0 0 0 0 (by omega) ⟨by simp,fun y hy=>by rw [(List.mem_replicate.1 hy).2];simp,by omega,by omega,by simp,by omega,.inl ⟨rfl,rfl⟩⟩ (by simp)
   obtain ⟨R1,R2⟩:=R
   have g3':R2=true:=g3
   subst g3'
   refine ⟨R1,true,ev_guard' es (fun _=>ev_bind _ e1 ?_) (fun hn=>absurd h hn),ev_guard' ei (fun _=>ev_bind _ e2 ?_) (fun hn=>absurd h hn),by have:R1.length=m.toNat:=g1;omega,fun y hy=>by have:=g2 y hy;omega⟩
   ·simp only [if_pos (show 0≤m by omega),if_pos (show m.toNat≤11728124029610 by omega)]
    exact s1
   ·simp only [if_pos (show 0≤m by omega),if_pos (show m.toNat≤11728124029610 by omega)]
    exact s2
 ·exact ⟨[],false,ev_guard' es (fun h1=>absurd h1 h) (fun _=>Ev.now _),ev_guard' ei (fun h1=>absurd h1 h) (fun _=>Ev.now _),by simp,by simp⟩

end Go.Proofs.Ytbcfmegepkhlpaa.Pure
-- minified
