/- Proved here: what functions that the law FnTies reaches answer (lateL, lateP, tieCount, exchP, tieVal, tieBoth, tieCountBoth). Conditions: those that each theorem names. -/
import Derived.Test.YtkcfmaiknmfokaaQFnTiesa
set_option linter.unusedVariables false
set_option linter.unusedSimpArgs false
namespace Go.Proofs.Ytkcfmaiknmfokaa.Pure
open Go.RowKit Go.Proofs.Ytkcfmaiknmfokaa.XFnTies Go.Proofs.YtkcfmaiknmfokaaW.PrintWords Go.Proofs.YtkcfmaiknmfokaaW.PrintLast

/-- Orders from their end: the sum of times, the sum of ends, no lateness above a limit. -/
def totL (p:Int→Int):List Int→Int
 | []=>0
 | x::r=>p x + totL p r
def sumR (p:Int→Int):List Int→Int
 | []=>0
 | x::r=>totL p (x::r) + sumR p r
def feasR (p d:Int→Int) (L:Int):List Int→Prop
 | []=>True
 | x::r=>totL p (x::r)≤d x + L∧feasR p d L r
theorem totL_perm (p:Int→Int) {a b:List Int} (h:a.Perm b):totL p a=totL p b:=by
 induction h with
 | nil=>rfl
 | cons x _ ih=>simp only [totL,ih]
 | swap x y l=>simp only [totL];omega
 | trans _ _ i1 i2=>exact i1.trans i2
theorem totL_app (p:Int→Int):∀ (M A:List Int),totL p (M++A)=totL p M + totL p A
 | [],A=>by simp [totL]
 | x::M,A=>by rw [List.cons_append,totL,totL,totL_app p M A];omega
theorem totL_nonneg {p:Int→Int} (hp:∀ x,0≤p x):∀ l,0≤totL p l
 | []=>Int.le_refl _
 | x::l=>by rw [totL];have:=hp x;have:=totL_nonneg hp l;omega
theorem totL_le {p:Int→Int} {B:Int} (hp:∀ x,p x≤B):∀ l:List Int,totL p l≤B * (l.length:Int)
 | []=>by simp [totL]
 | x::l=>by rw [totL,List.length_cons];have:=hp x;have:=totL_le hp l;rw [Int.natCast_add,Int.mul_add];omega
theorem feasR_swap {p d:Int→Int} {L:Int} {l b:Int} {A:List Int} (hlb:p l≤p b) (hl:totL p (l::A)≤d l + L):∀ M,feasR p d L (M++b::A)→feasR p d L (M++l::A)∧sumR p (M++l::A)≤sumR p (M++b::A)
 | [],h=>⟨⟨hl,h.2⟩,by simp only [List.nil_append,sumR,totL];omega⟩
 | x::M,h=>by
  have ih:=feasR_swap hlb hl M h.2
  have e:totL p (x::(M++l::A))≤totL p (x::(M++b::A)):=by simp only [totL,totL_app];omega
  have h1:totL p (x::(M++b::A))≤d x + L:=h.1
  refine ⟨⟨?_,ih.1⟩,?_⟩
  ·show totL p (x::(M++l::A))≤d x + L
   omega
  ·show totL p (x::(M++l::A)) + sumR p (M++l::A)≤totL p (x::(M++b::A)) + sumR p (M++b::A)
   omega
theorem exchR {p d:Int→Int} {L:Int} (hp:∀ x,0≤p x) {r:List Int} {b:Int} (hb:b ∈ r) (hm:∀ y ∈ r,totL p r≤d y + L→p y≤p b) (hf:feasR p d L r):∃ r',(b::r').Perm r∧feasR p d L r'∧totL p r + sumR p r'≤sumR p r:=by
 cases r with
 | nil=>simp at hb
 | cons l t=>
  by_cases e:b=l
  ·subst e
   exact ⟨t,List.Perm.refl _,hf.2,Int.le_refl _⟩
  ·have hbt:b ∈ t:=by rcases List.mem_cons.1 hb with h|h;exact absurd h e;exact h
   obtain ⟨M,A,rfl⟩:=List.append_of_mem hbt
   have hl:=hm l List.mem_cons_self hf.1
   have h1:totL p (l::(M++b::A))≤d l + L:=hf.1
   have hl2:totL p (l::A)≤d l + L:=by
    simp only [totL,totL_app] at h1 ⊢
    have:=totL_nonneg hp M
    have:=hp b
    omega
   have h2:=feasR_swap hl hl2 M hf.2
   refine ⟨M++l::A,?_,h2.1,?_⟩
   ·have p1:(b::(M++l::A)).Perm (b::l::(M++A)):=List.Perm.cons _ List.perm_middle
    have p2:(l::(M++b::A)).Perm (l::b::(M++A)):=List.Perm.cons _ List.perm_middle
    exact (p1.trans (List.Perm.swap _ _ _)).trans p2.symm
   ·show totL p (l::(M++b::A)) + sumR p (M++l::A)≤totL p (l::(M++b::A)) + sumR p (M++b::A)
    omega
/-- Orders from their start. -/
def sumC (p:Int→Int):List Int→Int→Int
 | [],_=>0
 | x::l,t=>(t + p x) + sumC p l (t + p x)
def feasF (p d:Int→Int) (L:Int):List Int→Int→Prop
 | [],_=>True
 | x::l,t=>t + p x≤d x + L∧feasF p d L l (t + p x)
theorem sumC_snoc (p:Int→Int) (x:Int):∀ l t,sumC p (l++[x]) t=sumC p l t + (t + totL p l + p x)
 | [],t=>by simp only [List.nil_append,sumC,totL];omega
 | y::l,t=>by rw [List.cons_append,sumC,sumC,totL,sumC_snoc p x l];omega
theorem feasF_snoc (p d:Int→Int) (L:Int) (x:Int):∀ l t,feasF p d L (l++[x]) t ↔ feasF p d L l t∧t + totL p l + p x≤d x + L
 | [],t=>by simp only [List.nil_append,feasF,totL];constructor <;> intro h <;> simp at h ⊢ <;> omega
 | y::l,t=>by
  rw [List.cons_append,feasF,feasF,totL,feasF_snoc p d L x l]
  constructor
  ·rintro ⟨h1,h2,h3⟩;exact ⟨⟨h1,h2⟩,by omega⟩
  ·rintro ⟨⟨h1,h2⟩,h3⟩;exact ⟨h1,h2,by omega⟩
theorem rev_sum (p:Int→Int):∀ r:List Int,sumC p r.reverse 0=sumR p r
 | []=>rfl
 | x::r=>by rw [List.reverse_cons,sumC_snoc,rev_sum p r,sumR,totL_perm p (List.reverse_perm r),totL];omega
theorem rev_feas (p d:Int→Int) (L:Int):∀ r:List Int,feasF p d L r.reverse 0 ↔ feasR p d L r
 | []=>Iff.rfl
 | x::r=>by
  rw [List.reverse_cons,feasF_snoc,rev_feas p d L r,feasR,totL_perm p (List.reverse_perm r),totL]
  constructor
  ·rintro ⟨h1,h2⟩;exact ⟨by omega,h1⟩
  ·rintro ⟨h1,h2⟩;exact ⟨h2,by omega⟩
theorem sum_set0:∀ (l:List Int) (i:Nat) (v:Int),l[i]?=some 0→(l.set i v).sum=l.sum + v
 | [],_,_,h=>by simp at h
 | a::l,0,v,h=>by simp at h;subst h;simp;omega
 | a::l,i + 1,v,h=>by simp at h;simp [sum_set0 l i v h];omega
theorem feasF_mono {p d:Int→Int} {L:Int} : ∀ (l:List Int) (t t':Int),t≤t'→feasF p d L l t'→feasF p d L l t
 | [],_,_,_,_=>trivial
 | x::l,t,t',h,hf=>⟨by have:=hf.1;omega,feasF_mono l _ _ (by omega) hf.2⟩
theorem feasF_swap {p d:Int→Int} {L:Int} (hp:∀ x,0≤p x) {a b:Int} (hd:d b≤d a) (suf:List Int):∀ (pre:List Int) (t:Int),feasF p d L (pre++a::b::suf) t→feasF p d L (pre++b::a::suf) t
 | [],t,h=>by
  obtain ⟨h1,h2,h3⟩:=h
  have pa:=hp a
  have pb:=hp b
  exact ⟨by omega,by omega,feasF_mono suf _ _ (by omega) h3⟩
 | x::pre,t,h=>⟨h.1,feasF_swap hp hd suf pre _ h.2⟩

def pT (jobs:List J) (x:Int):Int:=(rd_T44 jobs x).f0
def dT (jobs:List J) (x:Int):Int:=(rd_T44 jobs x).f3
theorem rdJ_any (jobs:List J) (x:Int):rd_T44 jobs x ∈ jobs∨rd_T44 jobs x=z44:=by
 unfold rd_T44
 rw [List.getD_eq_getElem?_getD]
 cases h:jobs[x.toNat]? with
 | none=>right;rfl
 | some q=>left;exact List.mem_of_getElem? h
theorem pT_bd {jobs:List J} (hj:PlainOk jobs) (x:Int):0≤pT jobs x∧pT jobs x≤50:=by
 unfold pT
 rcases rdJ_any jobs x with h|h
 ·have:=hj.1.2 _ h;unfold JobOk at this;omega
 ·rw [h];exact ⟨by decide,by decide⟩
theorem dT_bd {jobs:List J} (hj:PlainOk jobs) (x:Int):0≤dT jobs x∧dT jobs x≤500:=by
 unfold dT
 rcases rdJ_any jobs x with h|h
 ·have:=hj.1.2 _ h;unfold JobOk at this;omega
 ·rw [h];exact ⟨by decide,by decide⟩
theorem rel0 {jobs:List J} (hj:PlainOk jobs) (x:Int):(rd_T44 jobs x).f2=0:=by
 rcases rdJ_any jobs x with h|h
 ·exact hj.2 _ h
 ·rw [h];decide
theorem endsF_keep (jobs:List J) (i:Nat):∀ (l out:List Int) (now:Int),(∀ x ∈ l,x.toNat≠i)→(endsF jobs l out now)[i]?=out[i]?
 | [],_,_,_=>rfl
 | x::l,out,now,h=>by
  rw [endsF,endsF_keep jobs i l _ _ (fun y hy=>h y (List.mem_cons_of_mem _ hy)),List.getElem?_set_ne (h x List.mem_cons_self)]
theorem endsF_facts {jobs:List J} (hj:PlainOk jobs) (L:Int):∀ (l out:List Int) (now:Int),0≤now→now + 50 * (l.length:Int)≤100000→(∀ x ∈ l,0≤x∧x<jobs.length)→l.Nodup→out.length=jobs.length→(∀ x ∈ l,out[x.toNat]?=some 0)→(endsF jobs l out now).sum=out.sum + sumC (pT jobs) l now∧((∀ x ∈ l,∀ e,(endsF jobs l out now)[x.toNat]?=some e→e≤dT jobs x + L) ↔ feasF (pT jobs) (dT jobs) L l now)
 | [],out,now,_,_,_,_,_,_=>by simp [endsF,sumC,feasF]
 | x::l,out,now,h0,h1,hx,hn,hlen,hz=>by
  have hn':=List.nodup_cons.1 hn
  have hb:=pT_bd hj x
  have hx0:=hx x List.mem_cons_self
  simp only [List.length_cons] at h1
  have hw:wrap64 (mx now (rd_T44 jobs x).f2 + (rd_T44 jobs x).f0)=now + pT jobs x:=by
   rw [rel0 hj x,show mx now 0=now by unfold mx;split <;> omega]
   exact wr (by unfold pT at hb;omega) (by unfold pT at hb;omega)
  have hne:∀ y ∈ l,y.toNat≠x.toNat:=fun y hy e=>by
   have:=hx y (List.mem_cons_of_mem _ hy)
   exact hn'.1 (by rw [show x=y by omega];exact hy)
  have ih:=endsF_facts hj L l (out.set x.toNat (now + pT jobs x)) (now + pT jobs x) (by omega) (by omega) (fun y hy=>hx y (List.mem_cons_of_mem _ hy)) hn'.2 (by simpa using hlen) (fun y hy=>by rw [List.getElem?_set_ne (fun e=>hne y hy e.symm)];exact hz y (List.mem_cons_of_mem _ hy))
  rw [endsF,hw,sumC,feasF]
  refine ⟨?_,?_⟩
  ·rw [ih.1,sum_set0 _ _ _ (hz x List.mem_cons_self)];omega
  ·have hk:(endsF jobs l (out.set x.toNat (now + pT jobs x)) (now + pT jobs x))[x.toNat]?=some (now + pT jobs x):=by
    rw [endsF_keep jobs x.toNat l _ _ hne,List.getElem?_set_self (by omega)]
   rw [←ih.2]
   constructor
   ·intro h
    exact ⟨h x List.mem_cons_self _ hk,fun y hy e he=>h y (List.mem_cons_of_mem _ hy) e he⟩
   ·rintro ⟨h2,h3⟩ y hy e he
    rcases List.mem_cons.1 hy with rfl|hy
    ·rw [hk] at he;injection he with he;omega
    ·exact h3 y hy e he
theorem valF_sum (jobs:List J) (ends:List Int) (hb:∀ e ∈ ends,0≤e∧e≤900):∀ (n i:Nat) (s:Int),i + n=ends.length→0≤s→s + 900 * (n:Int)≤1000000000→valF jobs ends 2 n i s=s + (ends.drop i).sum
 | 0,i,s,h,_,_=>by rw [valF,List.drop_of_length_le (by omega)];simp
 | n + 1,i,s,h,h0,h1=>by
  have hi:i<ends.length:=by omega
  have he:=hb _ (List.getElem_mem hi)
  rw [valF,rd_nat hi,drop_cons hi,List.sum_cons]
  have ha:addF s (rd_T44 jobs (i:Int)) ends[i] 2 (decide (i=0))=s + ends[i]:=by
   unfold addF
   rw [if_neg (by omega),if_pos rfl,wr (by omega) (by omega)]
  rw [ha,valF_sum jobs ends hb n (i + 1) _ (by omega) (by omega) (by omega)]
  omega
theorem addF_late (s:Int) (j:J) (e:Int) (b:Bool) (he:0≤e∧e≤900) (hj:0≤j.f3∧j.f3≤500):addF s j e 4 b=if b=true then e - j.f3 else mx s (e - j.f3):=by
 unfold addF
 rw [if_neg (by omega),if_neg (by omega),if_neg (by omega),if_pos rfl,wr (x:=e - j.f3) (by omega) (by omega)]
theorem mx_le {a b L:Int} : mx a b≤L ↔ a≤L∧b≤L:=by unfold mx;split <;> omega
theorem valF_late {jobs:List J} (hj:PlainOk jobs) (ends:List Int) (hl:ends.length=jobs.length) (hb:∀ e ∈ ends,0≤e∧e≤900) (L:Int):∀ (n i:Nat) (s:Int),0<i→i + n=jobs.length→(valF jobs ends 4 n i s≤L ↔ s≤L∧∀ j,i≤j→j<jobs.length→rd ends (j:Int)≤dT jobs (j:Int) + L)
 | 0,i,s,_,h=>by
  rw [valF]
  exact ⟨fun h1=>⟨h1,fun j h2 h3=>by omega⟩,fun h1=>h1.1⟩
 | n + 1,i,s,h0,h=>by
  have hi:i<ends.length:=by omega
  have he:=hb _ (List.getElem_mem hi)
  have hd:=dT_bd hj (i:Int)
  have hr:=rd_nat hi
  rw [valF,addF_late _ _ _ _ (by rw [hr];exact he) hd,if_neg (by simp;omega),valF_late hj ends hl hb L n (i + 1) _ (by omega) (by omega),mx_le]
  constructor
  ·rintro ⟨⟨h1,h2⟩,h3⟩
   refine ⟨h1,fun j hj1 hj2=>?_⟩
   by_cases e:j=i
   ·subst e;unfold dT;omega
   ·exact h3 j (by omega) hj2
  ·rintro ⟨h1,h2⟩
   refine ⟨⟨h1,?_⟩,fun j hj1 hj2=>h2 j (by omega) hj2⟩
   have:=h2 i (Nat.le_refl _) (by omega)
   unfold dT at this;omega
theorem pt_late {jobs:List J} (hj:PlainOk jobs) {l:List Int} (hl:IsPerm jobs.length l):(pointF jobs 2 4 l).1=sumR (pT jobs) l.reverse∧(0<jobs.length→∀ L,(pointF jobs 2 4 l).2≤L ↔ feasR (pT jobs) (dT jobs) L l.reverse):=by
 have h8:=hj.1.1
 have ht:TwoOk jobs l:=⟨hj.1,hl⟩
 have hlen:=endsAll_len jobs l
 have hz:∀ x ∈ l,(List.replicate jobs.length (0:Int))[x.toNat]?=some 0:=fun x hx=>by
  have:=hl.2.2 x hx
  rw [List.getElem?_replicate,if_pos (by omega)]
 have facts:=fun L=>endsF_facts hj L l (List.replicate jobs.length 0) 0 (by omega) (by have:=hl.1;omega) hl.2.2 hl.2.1 (by simp) hz
 have hb:∀ e ∈ endsAll jobs l,0≤e∧e≤900:=fun e hm=>⟨endsAll_nonneg jobs l ht e hm,endsAll_le jobs l ht e hm⟩
 refine ⟨?_,fun hn L=>?_⟩
 ·show valF jobs (endsAll jobs l) 2 jobs.length 0 0=_
  rw [valF_sum jobs _ hb _ _ _ (by omega) (by omega) (by omega),List.drop_zero,←rev_sum,List.reverse_reverse]
  have:=(facts 0).1
  rw [show (List.replicate jobs.length (0:Int)).sum=0 by simp] at this
  rw [endsAll,this];omega
 ·show valF jobs (endsAll jobs l) 4 jobs.length 0 0≤L ↔ _
  rw [←rev_feas,List.reverse_reverse,←(facts L).2]
  obtain ⟨n,hn'⟩:∃ n,jobs.length=n + 1:=⟨jobs.length - 1,by omega⟩
  have h0:0<(endsAll jobs l).length:=by omega
  have hd:=dT_bd hj ((0:Nat):Int)
  have e0:valF jobs (endsAll jobs l) 4 jobs.length 0 0=valF jobs (endsAll jobs l) 4 n 1 (rd (endsAll jobs l) ((0:Nat):Int) - dT jobs ((0:Nat):Int)):=by
   rw [hn',valF,addF_late _ _ _ _ (by rw [rd_nat h0];exact hb _ (List.getElem_mem h0)) hd,if_pos (by simp)]
   rfl
  rw [e0,valF_late hj _ hlen hb L n 1 _ (by omega) (by omega)]
  constructor
  ·rintro ⟨h1,h2⟩ x hx e he
   have hx2:=hl.2.2 x hx
   have he':(endsAll jobs l)[x.toNat]?=some e:=he
   have hr:rd (endsAll jobs l) ((x.toNat:Nat):Int)=e:=by
    have hlt:x.toNat<(endsAll jobs l).length:=by omega
    rw [rd_nat hlt]
    rw [List.getElem?_eq_getElem hlt] at he'
    exact Option.some.inj he'
   have hxx:((x.toNat:Nat):Int)=x:=by omega
   by_cases e0:x.toNat=0
   ·rw [e0] at hr
    have:x=((0:Nat):Int):=by omega
    rw [this];omega
   ·have:=h2 x.toNat (by omega) (by omega)
    rw [hr,hxx] at this;exact this
  ·intro h
   have at_:∀ j,j<jobs.length→rd (endsAll jobs l) (j:Int)≤dT jobs (j:Int) + L:=fun j hjl=>by
    have hm:=hl.all (j:Int) (by omega) (by omega)
    have hlt:j<(endsAll jobs l).length:=by omega
    rw [rd_nat hlt]
    exact h (j:Int) hm _ (by rw [Int.toNat_natCast];exact List.getElem?_eq_getElem hlt)
   refine ⟨by have:=at_ 0 hn;omega,fun j _ h2=>at_ j h2⟩

def tieB (lt:Int→Int→Bool) (a b:Int):Bool:= !lt a b && !lt b a
def srtB (lt:Int→Int→Bool):List Int→Bool
 | []=>true
 | x::l=>l.all (fun y=> !lt y x) && srtB lt l
def facT (lt:Int→Int→Bool):List Int→Nat
 | []=>1
 | x::l=>(x::l).countP (tieB lt x) * facT lt l
theorem tie_iff {lt:Int→Int→Bool} {a b:Int} : tieB lt a b=true ↔ lt a b=false∧lt b a=false:=by
 unfold tieB;cases lt a b <;> cases lt b a <;> simp
theorem tie_self {lt:Int→Int→Bool} {P:Int→Prop} (hp:Pre lt P) {a:Int} (ha:P a):tieB lt a a=true:=by
 have:lt a a=false:=by
  cases h:lt a a with
  | false=>rfl
  | true=>have:=hp.asym a a ha ha h;rw [h] at this;exact this
 exact tie_iff.2 ⟨this,this⟩
theorem tie_symm {lt:Int→Int→Bool} {a b:Int} (h:tieB lt a b=true):tieB lt b a=true:=tie_iff.2 ⟨(tie_iff.1 h).2,(tie_iff.1 h).1⟩
theorem tie_trans {lt:Int→Int→Bool} {P:Int→Prop} (hp:Pre lt P) {a b c:Int} (ha:P a) (hb:P b) (hc:P c) (h1:tieB lt a b=true) (h2:tieB lt b c=true):tieB lt a c=true:=by
 obtain ⟨x1,x2⟩:=tie_iff.1 h1
 obtain ⟨y1,y2⟩:=tie_iff.1 h2
 exact tie_iff.2 ⟨hp.trans c b a hc hb ha y1 x1,hp.trans a b c ha hb hc x2 y2⟩
theorem cnt_tie {lt:Int→Int→Bool} {P:Int→Prop} (hp:Pre lt P) {x y:Int} (hx:P x) (hy:P y) (h:tieB lt x y=true) (l:List Int) (hl:∀ z ∈ l,P z):l.countP (tieB lt x)=l.countP (tieB lt y):=by
 refine List.countP_congr fun z hz=>⟨fun h1=>tie_trans hp hy hx (hl z hz) (tie_symm h) h1,fun h1=>tie_trans hp hx hy (hl z hz) h h1⟩
theorem facT_perm {lt:Int→Int→Bool} {P:Int→Prop} (hp:Pre lt P) {l m:List Int} (h:l.Perm m):(∀ z ∈ l,P z)→facT lt l=facT lt m:=by
 induction h with
 | nil=>intro _;rfl
 | cons x h ih=>
  intro hl
  rw [facT,facT,ih (fun z hz=>hl z (List.mem_cons_of_mem _ hz)),(List.Perm.cons x h).countP_eq]
 | swap x y l=>
  intro hl
  have hy:=hl y List.mem_cons_self
  have hx:=hl x (List.mem_cons_of_mem _ List.mem_cons_self)
  have hz:∀ z ∈ l,P z:=fun z hz=>hl z (List.mem_cons_of_mem _ (List.mem_cons_of_mem _ hz))
  simp only [facT,List.countP_cons,tie_self hp hx,tie_self hp hy,if_true]
  by_cases c:tieB lt x y=true
  ·rw [if_pos c,if_pos (tie_symm c),cnt_tie hp hx hy c l hz]
  ·rw [if_neg c,if_neg (fun h=>c (tie_symm h))]
   simp only [Nat.add_zero,←Nat.mul_assoc]
   rw [Nat.mul_comm (List.countP (tieB lt y) l + 1)]
 | trans h1 h2 ih1 ih2=>
  intro hl
  rw [ih1 hl,ih2 (fun z hz=>hl z (h1.mem_iff.2 hz))]
theorem min_ex {lt:Int→Int→Bool} {P:Int→Prop} (hp:Pre lt P):∀ L:List Int,L≠[]→(∀ z ∈ L,P z)→∃ m,m ∈ L∧∀ y ∈ L,lt y m=false
 | [],h,_=>absurd rfl h
 | [x],_,hP=>⟨x,List.mem_cons_self,fun y hy=>by
  rw [List.mem_singleton.1 hy]
  exact (tie_iff.1 (tie_self hp (hP x List.mem_cons_self))).1⟩
 | x::z::L,_,hP=>by
  obtain ⟨m,hm,h⟩:=min_ex hp (z::L) (by simp) (fun w hw=>hP w (List.mem_cons_of_mem _ hw))
  have hx:=hP x List.mem_cons_self
  have hmP:=hP m (List.mem_cons_of_mem _ hm)
  cases c:lt x m with
  | true=>exact ⟨x,List.mem_cons_self,fun y hy=>by
    rcases List.mem_cons.1 hy with rfl|hy
    ·exact (tie_iff.1 (tie_self hp hx)).1
    ·exact hp.trans x m y hx hmP (hP y (List.mem_cons_of_mem _ hy)) (hp.asym x m hx hmP c) (h y hy)⟩
  | false=>exact ⟨m,List.mem_cons_of_mem _ hm,fun y hy=>by
    rcases List.mem_cons.1 hy with rfl|hy
    ·exact c
    ·exact h y hy⟩
theorem sum_if (q:Int→Bool) (g:Int→Nat) (f:Nat):∀ l:List Int,(∀ x ∈ l,q x=true→g x=f)→(l.map fun x=>if q x=true then g x else 0).sum=l.countP q * f
 | [],_=>by simp
 | x::l,h=>by
  have ih:=sum_if q g f l (fun y hy=>h y (List.mem_cons_of_mem _ hy))
  rw [List.map_cons,List.sum_cons,ih,List.countP_cons]
  by_cases c:q x=true
  ·rw [if_pos c,if_pos c,h x List.mem_cons_self c,Nat.add_mul,Nat.one_mul,Nat.add_comm]
  ·rw [if_neg c,if_neg c,Nat.zero_add,Nat.add_zero]
theorem count_sorted {lt:Int→Int→Bool} {P:Int→Prop} (hp:Pre lt P):∀ (n:Nat) (L:List Int),L.length=n→(∀ z ∈ L,P z)→(perms n L).countP (srtB lt)=facT lt L
 | 0,L,hL,_=>by
  rw [List.eq_nil_of_length_eq_zero hL]
  rfl
 | n + 1,L,hL,hP=>by
  have hne:L≠[]:=fun h=>by rw [h] at hL;simp at hL
  obtain ⟨m,hm,hmin⟩:=min_ex hp L hne hP
  have hmP:=hP m hm
  have step:∀ x ∈ L,((perms n (L.erase x)).map fun l=>x::l).countP (srtB lt)=if tieB lt m x=true then facT lt (L.erase x) else 0:=fun x hx=>by
   have hxP:=hP x hx
   have hEl:(L.erase x).length=n:=by rw [List.length_erase_of_mem hx];omega
   have hE:∀ z ∈ L.erase x,P z:=fun z hz=>hP z (List.mem_of_mem_erase hz)
   rw [List.countP_map]
   by_cases c:tieB lt m x=true
   ·rw [if_pos c,←count_sorted hp n (L.erase x) hEl hE]
    refine List.countP_congr fun l hl=>?_
    have hpm:=perms_perm n _ l hEl hl
    have:(l.all fun y=> !lt y x)=true:=List.all_eq_true.2 fun y hy=>by
     have hyE:=hpm.mem_iff.1 hy
     have:=hp.trans x m y hxP hmP (hE y hyE) (tie_iff.1 c).1 (hmin y (List.mem_of_mem_erase hyE))
     rw [this];rfl
    simp only [Function.comp,srtB,this,Bool.true_and]
   ·rw [if_neg c,List.countP_eq_zero]
    intro l hl h
    have hpm:=perms_perm n _ l hEl hl
    simp only [Function.comp,srtB,Bool.and_eq_true] at h
    have h1:=List.all_eq_true.1 h.1
    refine c (tie_iff.2 ⟨?_,hmin x hx⟩)
    by_cases e:m=x
    ·subst e
     exact (tie_iff.1 (tie_self hp hmP)).1
    ·have:=h1 m (hpm.mem_iff.2 ((List.mem_erase_of_ne e).2 hm))
     simpa using this
  rw [perms,List.countP_flatMap]
  have hmap:(L.map (List.countP (srtB lt) ∘ fun x=>(perms n (L.erase x)).map fun l=>x::l))=L.map fun x=>if tieB lt m x=true then facT lt (L.erase x) else 0:=List.map_congr_left fun x hx=>step x hx
  have hcons:∀ x ∈ L,facT lt L=L.countP (tieB lt x) * facT lt (L.erase x):=fun x hx=>by
   have h1:=List.perm_cons_erase hx
   rw [facT_perm hp h1 hP,facT,h1.countP_eq]
  rw [hmap,sum_if (tieB lt m) (fun x=>facT lt (L.erase x)) (facT lt (L.erase m)) L (fun x hx c=>?_),←hcons m hm]
  have h1:=hcons x hx
  rw [hcons m hm,cnt_tie hp hmP (hP x hx) c L hP] at h1
  have hpos:0<L.countP (tieB lt x):=List.countP_pos_iff.2 ⟨x,hx,tie_self hp (hP x hx)⟩
  exact (Nat.eq_of_mul_eq_mul_left hpos h1).symm
theorem srt_iff {lt:Int→Int→Bool} : ∀ l:List Int,srtB lt l=true ↔ SortedLt lt l
 | []=>by simp [srtB,SortedLt]
 | x::l=>by
  unfold SortedLt
  rw [srtB,Bool.and_eq_true,List.all_eq_true,List.pairwise_cons]
  have ih:=srt_iff (lt:=lt) l
  unfold SortedLt at ih
  rw [ih]
  constructor
  ·rintro ⟨h1,h2⟩
   exact ⟨fun y hy=>by have:=h1 y hy;simpa using this,h2⟩
  ·rintro ⟨h1,h2⟩
   exact ⟨fun y hy=>by rw [h1 y hy];rfl,h2⟩

/-- Moving what may stand ahead costs nothing, so what is sorted is best. -/
theorem sorted_best {lt:Int→Int→Bool} {V:List Int→Int} {G:List Int→Prop} (hG:∀ l l':List Int,l.Perm l'→G l→G l')
  (hsw:∀ pre a b suf,G (pre++a::b::suf)→lt a b=false→V (pre++b::a::suf)≤V (pre++a::b::suf)) :
  ∀ (s pre l:List Int),SortedLt lt s→l.Perm s→G (pre++l)→V (pre++s)≤V (pre++l)
 | [],pre,l,_,hl,_=>by rw [hl.eq_nil];exact Int.le_refl _
 | x::s,pre,l,hs,hl,hg=>by
  obtain ⟨A,B,rfl⟩:=List.append_of_mem (hl.mem_iff.2 List.mem_cons_self)
  have hs':=List.pairwise_cons.1 hs
  have hAB:(A++B).Perm s:=(List.perm_cons x).1 ((List.perm_middle (l₁:=A) (l₂:=B) (a:=x)).symm.trans hl)
  have front:∀ (n:Nat) (A B:List Int),A.length=n→G (pre++(A++x::B))→(∀ a ∈ A,lt a x=false)→V (pre++x::(A++B))≤V (pre++(A++x::B)):=by
   intro n
   induction n with
   | zero=>intro A B h _ _;rw [List.eq_nil_of_length_eq_zero h];exact Int.le_refl _
   | succ n ih=>
    intro A B h hg ha
    have hne:A≠[]:=fun e=>by rw [e] at h;simp at h
    obtain ⟨A',a,rfl⟩:∃ A' a,A=A'++[a]:=⟨A.dropLast,A.getLast hne,(List.dropLast_concat_getLast hne).symm⟩
    have e1:pre++(A'++[a]++x::B)=(pre++A')++a::x::B:=by simp
    have e2:pre++(A'++x::(a::B))=(pre++A')++x::a::B:=by simp
    have h1:=hsw (pre++A') a x B (by rw [←e1];exact hg) (ha a (by simp))
    have h2:=ih A' (a::B) (by simp at h;exact h) (by
     refine hG _ _ ?_ hg
     rw [e1,e2]
     exact List.Perm.append_left _ (List.Perm.swap _ _ _)) (fun b hb=>ha b (by simp [hb]))
    rw [e1]
    rw [e2] at h2
    have e3:pre++x::(A'++[a]++B)=pre++x::(A'++a::B):=by simp
    rw [e3];omega
  have h1:=front A.length A B rfl hg (fun a ha=>hs'.1 a (hAB.mem_iff.1 (List.mem_append.2 (.inl ha))))
  have h2:=sorted_best hG hsw s (pre++[x]) (A++B) hs'.2 hAB (by
   refine hG _ _ ?_ hg
   rw [List.append_assoc]
   exact List.Perm.append_left _ List.perm_middle)
  have e:∀ l,pre++[x]++l=pre++x::l:=fun l=>by simp
  rw [e,e] at h2
  omega
/-- sorted, or two neighbors that aren't -/
theorem sorted_or {lt:Int→Int→Bool} {P:Int→Prop} (hp:Pre lt P):∀ l:List Int,(∀ z ∈ l,P z)→SortedLt lt l∨∃ pre a b suf,l=pre++a::b::suf∧lt b a=true
 | [],_=>.inl List.Pairwise.nil
 | [x],_=>.inl (List.pairwise_singleton _ _)
 | x::y::l,h=>by
  cases c:lt y x with
  | true=>exact .inr ⟨[],x,y,l,rfl,c⟩
  | false=>
   rcases sorted_or hp (y::l) (fun z hz=>h z (List.mem_cons_of_mem _ hz)) with hs | ⟨pre,a,b,suf,e,hab⟩
   ·left
    refine List.pairwise_cons.2 ⟨fun z hz=>?_,hs⟩
    rcases List.mem_cons.1 hz with rfl|hz'
    ·exact c
    ·exact hp.trans x y z (h x List.mem_cons_self) (h y (by simp)) (h z (by simp [hz'])) c ((List.pairwise_cons.1 hs).1 z hz')
   ·exact .inr ⟨x::pre,a,b,suf,by rw [e];rfl,hab⟩
/-- Best is what is sorted, where an exchange of what isn't gains. -/
theorem best_sorted {lt:Int→Int→Bool} {P:Int→Prop} (hp:Pre lt P) {V:List Int→Int} {G:List Int→Prop}
  (hst:∀ pre a b suf,G (pre++a::b::suf)→lt b a=true→V (pre++b::a::suf)<V (pre++a::b::suf)) {l:List Int} (hg:G l) (hP:∀ z ∈ l,P z) (hb:∀ l',l'.Perm l→V l≤V l'):SortedLt lt l:=by
 rcases sorted_or hp l hP with h | ⟨pre,a,b,suf,rfl,hab⟩
 ·exact h
 ·have h1:=hst pre a b suf hg hab
  have h2:=hb (pre++b::a::suf) (List.Perm.append_left _ (List.Perm.swap _ _ _))
  omega

def wT (jobs:List J) (x:Int):Int:=(rd_T44 jobs x).f1
def rT (jobs:List J) (x:Int):Int:=(rd_T44 jobs x).f2
def valT (jobs:List J) (f:Int) (l:List Int):Int:=valF jobs (endsAll jobs l) f jobs.length 0 0
/-- all ends within a limit, with releases -/
def feasE (p r:Int→Int) (L:Int):List Int→Int→Prop
 | [],_=>True
 | x::l,t=>mx t (r x) + p x≤L∧feasE p r L l (mx t (r x) + p x)
theorem feasE_mono {p r:Int→Int} {L:Int} : ∀ (l:List Int) (t t':Int),t≤t'→feasE p r L l t'→feasE p r L l t
 | [],_,_,_,_=>trivial
 | x::l,t,t',h,hf=>by
  have e:mx t (r x) + p x≤mx t' (r x) + p x:=by unfold mx;split <;> split <;> omega
  exact ⟨Int.le_trans e hf.1,feasE_mono l _ _ e hf.2⟩
theorem feasE_swap {p r:Int→Int} {L:Int} (hp:∀ x,0≤p x) {a b:Int} (hr:r b≤r a) (suf:List Int):∀ (pre:List Int) (t:Int),feasE p r L (pre++a::b::suf) t→feasE p r L (pre++b::a::suf) t
 | [],t,h=>by
  obtain ⟨h1,h2,h3⟩:=h
  have pa:=hp a
  have pb:=hp b
  have e:mx (mx t (r b) + p b) (r a) + p a≤mx (mx t (r a) + p a) (r b) + p b:=by unfold mx;repeat' split <;> omega
  have e1:mx t (r b) + p b≤mx (mx t (r a) + p a) (r b) + p b:=by unfold mx;repeat' split <;> omega
  exact ⟨by omega,by omega,feasE_mono suf _ _ e h3⟩
 | x::pre,t,h=>⟨h.1,feasE_swap hp hr suf pre _ h.2⟩
/-- the weighted sum of the ends -/
def sumW (p w:Int→Int):List Int→Int→Int
 | [],_=>0
 | x::l,t=>w x * (t + p x) + sumW p w l (t + p x)
theorem sumW_swap (p w:Int→Int) (a b:Int) (suf:List Int):∀ (pre:List Int) (t:Int),sumW p w (pre++a::b::suf) t=sumW p w (pre++b::a::suf) t + (p a * w b - p b * w a)
 | [],t=>by
  simp only [List.nil_append,sumW]
  rw [show t + p b + p a=t + p a + p b by omega]
  simp only [Int.mul_add]
  rw [Int.mul_comm (w b) (p a),Int.mul_comm (w a) (p b)];omega
 | x::pre,t=>by simp only [List.cons_append,sumW];rw [sumW_swap p w a b suf pre];omega
theorem sumC_swap (p:Int→Int) (a b:Int) (suf:List Int):∀ (pre:List Int) (t:Int),sumC p (pre++a::b::suf) t=sumC p (pre++b::a::suf) t + (p a - p b)
 | [],t=>by
  simp only [List.nil_append,sumC]
  rw [show t + p b + p a=t + p a + p b by omega];omega
 | x::pre,t=>by simp only [List.cons_append,sumC];rw [sumC_swap p a b suf pre];omega
/-- a weighted sum of a list -/
def wsum (w:Int→Int):Nat→List Int→Int
 | _,[]=>0
 | i,e::l=>w (i:Int) * e + wsum w (i + 1) l
theorem wsum_set0 (w:Int→Int):∀ (l:List Int) (k i:Nat) (v:Int),l[i]?=some 0→wsum w k (l.set i v)=wsum w k l + w ((k + i:Nat):Int) * v
 | [],_,_,_,h=>by simp at h
 | a::l,k,0,v,h=>by simp at h;subst h;simp [wsum];omega
 | a::l,k,i + 1,v,h=>by
  simp at h
  rw [List.set_cons_succ,wsum,wsum,wsum_set0 w l (k + 1) i v h,show k + 1 + i=k + (i + 1) by omega];omega
theorem wsum_rep (w:Int→Int):∀ n k,wsum w k (List.replicate n 0)=0
 | 0,_=>rfl
 | n + 1,k=>by rw [List.replicate_succ,wsum,wsum_rep w n];omega
theorem endsF_w {jobs:List J} (hj:PlainOk jobs):∀ (l out:List Int) (now:Int),0≤now→now + 50 * (l.length:Int)≤100000→(∀ x ∈ l,0≤x∧x<jobs.length)→l.Nodup→(∀ x ∈ l,out[x.toNat]?=some 0)→wsum (wT jobs) 0 (endsF jobs l out now)=wsum (wT jobs) 0 out + sumW (pT jobs) (wT jobs) l now
 | [],out,now,_,_,_,_,_=>by simp [endsF,sumW]
 | x::l,out,now,h0,h1,hx,hn,hz=>by
  have hn':=List.nodup_cons.1 hn
  have hb:=pT_bd hj x
  have hx0:=hx x List.mem_cons_self
  simp only [List.length_cons] at h1
  have hw:wrap64 (mx now (rd_T44 jobs x).f2 + (rd_T44 jobs x).f0)=now + pT jobs x:=by
   rw [rel0 hj x,show mx now 0=now by unfold mx;split <;> omega]
   exact wr (by unfold pT at hb;omega) (by unfold pT at hb;omega)
  have hne:∀ y ∈ l,y.toNat≠x.toNat:=fun y hy e=>by
   have:=hx y (List.mem_cons_of_mem _ hy)
   exact hn'.1 (by rw [show x=y by omega];exact hy)
  have ih:=endsF_w hj l (out.set x.toNat (now + pT jobs x)) (now + pT jobs x) (by omega) (by omega) (fun y hy=>hx y (List.mem_cons_of_mem _ hy)) hn'.2 (fun y hy=>by rw [List.getElem?_set_ne (fun e=>hne y hy e.symm)];exact hz y (List.mem_cons_of_mem _ hy))
  rw [endsF,hw,sumW,ih,wsum_set0 _ _ _ _ _ (hz x List.mem_cons_self),show ((0 + x.toNat:Nat):Int)=x by omega];omega
theorem endsF_e {jobs:List J} (hj:JobsOk jobs) (L:Int):∀ (l out:List Int) (now B:Int),0≤now→now≤B→500≤B→B + 50 * (l.length:Int)≤100000→(∀ x ∈ l,0≤x∧x<jobs.length)→l.Nodup→out.length=jobs.length→((∀ x ∈ l,∀ e,(endsF jobs l out now)[x.toNat]?=some e→e≤L) ↔ feasE (pT jobs) (rT jobs) L l now)
 | [],out,now,_,_,_,_,_,_,_,_=>by simp [feasE]
 | x::l,out,now,B,h0,hB,hB5,h1,hx,hn,hlen=>by
  have hn':=List.nodup_cons.1 hn
  have hx0:=hx x List.mem_cons_self
  have hjx:=hj.2 _ (List.getElem_mem (show x.toNat<jobs.length by omega))
  rw [←rdJ_int hx0.1 hx0.2] at hjx
  obtain ⟨j1,j2,j3,j4⟩:=hjx
  simp only [List.length_cons] at h1
  have hm:0≤mx now (rd_T44 jobs x).f2∧mx now (rd_T44 jobs x).f2≤B:=by unfold mx;split <;> omega
  have hw:wrap64 (mx now (rd_T44 jobs x).f2 + (rd_T44 jobs x).f0)=mx now (rT jobs x) + pT jobs x:=wr (by omega) (by omega)
  have hpr:0≤mx now (rT jobs x) + pT jobs x∧mx now (rT jobs x) + pT jobs x≤B + 50:=by unfold rT pT;omega
  have hne:∀ y ∈ l,y.toNat≠x.toNat:=fun y hy e=>by
   have:=hx y (List.mem_cons_of_mem _ hy)
   exact hn'.1 (by rw [show x=y by omega];exact hy)
  have ih:=endsF_e hj L l (out.set x.toNat (mx now (rT jobs x) + pT jobs x)) (mx now (rT jobs x) + pT jobs x) (B + 50) (by omega) (by omega) (by omega) (by omega) (fun y hy=>hx y (List.mem_cons_of_mem _ hy)) hn'.2 (by simpa using hlen)
  have hk:(endsF jobs l (out.set x.toNat (mx now (rT jobs x) + pT jobs x)) (mx now (rT jobs x) + pT jobs x))[x.toNat]?=some (mx now (rT jobs x) + pT jobs x):=by
   rw [endsF_keep jobs x.toNat l _ _ hne,List.getElem?_set_self (by omega)]
  rw [endsF,hw,feasE,←ih]
  constructor
  ·intro h
   exact ⟨h x List.mem_cons_self _ hk,fun y hy e he=>h y (List.mem_cons_of_mem _ hy) e he⟩
  ·rintro ⟨h2,h3⟩ y hy e he
   rcases List.mem_cons.1 hy with rfl|hy
   ·rw [hk] at he;injection he with he;omega
   ·exact h3 y hy e he
theorem valF_w {jobs:List J} (hj:PlainOk jobs) (ends:List Int) (hl:ends.length=jobs.length) (hb:∀ e ∈ ends,0≤e∧e≤900):∀ (n i:Nat) (s:Int),i + n=ends.length→0≤s→s + 45000 * (n:Int)≤1000000000→valF jobs ends 3 n i s=s + wsum (wT jobs) i (ends.drop i)
 | 0,i,s,h,_,_=>by rw [valF,List.drop_of_length_le (by omega)];simp [wsum]
 | n + 1,i,s,h,h0,h1=>by
  have hi:i<ends.length:=by omega
  have he:=hb _ (List.getElem_mem hi)
  have hw:0≤wT jobs (i:Int)∧wT jobs (i:Int)≤50:=by
   unfold wT
   have:=hj.1.2 _ (List.getElem_mem (show i<jobs.length by omega))
   rw [rdJ (by omega)]
   exact this.2.1
  have hmul:0≤wT jobs (i:Int) * ends[i]∧wT jobs (i:Int) * ends[i]≤50 * 900:=⟨Int.mul_nonneg hw.1 he.1,Int.mul_le_mul hw.2 he.2 he.1 (by omega)⟩
  rw [valF,rd_nat hi,drop_cons hi,wsum]
  have ha:addF s (rd_T44 jobs (i:Int)) ends[i] 3 (decide (i=0))=s + wT jobs (i:Int) * ends[i]:=by
   unfold addF
   unfold wT at hmul ⊢
   rw [if_neg (by omega),if_neg (by omega),if_pos rfl,wr (x:=(rd_T44 jobs (i:Int)).f1 * ends[i]) (by omega) (by omega),wr (by omega) (by omega)]
  rw [ha,valF_w hj ends hl hb n (i + 1) _ (by omega) (by omega) (by omega)]
  omega
theorem valF_e (jobs:List J) (ends:List Int) (hl:ends.length=jobs.length) (L:Int):∀ (n i:Nat) (s:Int),i + n=jobs.length→(valF jobs ends 1 n i s≤L ↔ s≤L∧∀ j,i≤j→j<jobs.length→rd ends (j:Int)≤L)
 | 0,i,s,h=>by
  rw [valF]
  exact ⟨fun h1=>⟨h1,fun j h2 h3=>by omega⟩,fun h1=>h1.1⟩
 | n + 1,i,s,h=>by
  have ha:addF s (rd_T44 jobs (i:Int)) (rd ends (i:Int)) 1 (decide (i=0))=mx s (rd ends (i:Int)):=by unfold addF;rw [if_pos rfl]
  rw [valF,ha,valF_e jobs ends hl L n (i + 1) _ (by omega),mx_le]
  constructor
  ·rintro ⟨⟨h1,h2⟩,h3⟩
   refine ⟨h1,fun j hj1 hj2=>?_⟩
   by_cases e:j=i
   ·subst e;exact h2
   ·exact h3 j (by omega) hj2
  ·rintro ⟨h1,h2⟩
   exact ⟨⟨h1,h2 i (Nat.le_refl _) (by omega)⟩,fun j hj1 hj2=>h2 j (by omega) hj2⟩
theorem at_ends {jobs:List J} {l:List Int} (hl:IsPerm jobs.length l) (L:Int):(∀ x ∈ l,∀ e,(endsAll jobs l)[x.toNat]?=some e→e≤L) ↔ ∀ j,j<jobs.length→rd (endsAll jobs l) (j:Int)≤L:=by
 have hlen:=endsAll_len jobs l
 constructor
 ·intro h j hjl
  have hm:=hl.all (j:Int) (by omega) (by omega)
  have hlt:j<(endsAll jobs l).length:=by omega
  rw [rd_nat hlt]
  exact h (j:Int) hm _ (by rw [Int.toNat_natCast];exact List.getElem?_eq_getElem hlt)
 ·intro h x hx e he
  have hx2:=hl.2.2 x hx
  have hlt:x.toNat<(endsAll jobs l).length:=by omega
  have:=h x.toNat (by omega)
  rw [rd_nat hlt] at this
  rw [List.getElem?_eq_getElem hlt] at he
  injection he with he;omega
theorem val1 {jobs:List J} (hj:JobsOk jobs) {l:List Int} (hl:IsPerm jobs.length l) (hn:0<jobs.length) (L:Int):valT jobs 1 l≤L ↔ feasE (pT jobs) (rT jobs) L l 0:=by
 have h8:=hj.1
 have ht:TwoOk jobs l:=⟨hj,hl⟩
 rw [←endsF_e hj L l (List.replicate jobs.length 0) 0 500 (by omega) (by omega) (by omega) (by have:=hl.1;omega) hl.2.2 hl.2.1 (by simp)]
 show valF jobs (endsAll jobs l) 1 jobs.length 0 0≤L ↔ ∀ x ∈ l,∀ e,(endsAll jobs l)[x.toNat]?=some e→e≤L
 rw [at_ends hl,valF_e jobs _ (endsAll_len jobs l) L _ _ _ (by omega)]
 constructor
 ·rintro ⟨_,h⟩ j hj;exact h j (Nat.zero_le _) hj
 ·intro h
  refine ⟨?_,fun j _ hj=>h j hj⟩
  have h0:=h 0 hn
  have hlt:0<(endsAll jobs l).length:=by rw [endsAll_len];exact hn
  rw [rd_nat hlt] at h0
  have:=endsAll_nonneg jobs l ht _ (List.getElem_mem hlt)
  omega
theorem val2 {jobs:List J} (hj:PlainOk jobs) {l:List Int} (hl:IsPerm jobs.length l):valT jobs 2 l=sumC (pT jobs) l 0:=by
 have:=(pt_late hj hl).1
 rw [←rev_sum,List.reverse_reverse] at this
 exact this
theorem val3 {jobs:List J} (hj:PlainOk jobs) {l:List Int} (hl:IsPerm jobs.length l):valT jobs 3 l=sumW (pT jobs) (wT jobs) l 0:=by
 have h8:=hj.1.1
 have ht:TwoOk jobs l:=⟨hj.1,hl⟩
 have hlen:=endsAll_len jobs l
 have hb:∀ e ∈ endsAll jobs l,0≤e∧e≤900:=fun e hm=>⟨endsAll_nonneg jobs l ht e hm,endsAll_le jobs l ht e hm⟩
 have hz:∀ x ∈ l,(List.replicate jobs.length (0:Int))[x.toNat]?=some 0:=fun x hx=>by
  have:=hl.2.2 x hx
  rw [List.getElem?_replicate,if_pos (by omega)]
 have e:=endsF_w hj l (List.replicate jobs.length 0) 0 (by omega) (by have:=hl.1;omega) hl.2.2 hl.2.1 hz
 rw [wsum_rep] at e
 show valF jobs (endsAll jobs l) 3 jobs.length 0 0=_
 rw [valF_w hj _ hlen hb _ _ _ (by omega) (by omega) (by omega),List.drop_zero,endsAll,e];omega
theorem val4 {jobs:List J} (hj:PlainOk jobs) {l:List Int} (hl:IsPerm jobs.length l) (hn:0<jobs.length) (L:Int):valT jobs 4 l≤L ↔ feasF (pT jobs) (dT jobs) L l 0:=by
 have:=(pt_late hj hl).2 hn L
 rw [←rev_feas,List.reverse_reverse] at this
 exact this
theorem perm_isPerm {n:Nat} {l l':List Int} (h:l.Perm l') (hl:IsPerm n l):IsPerm n l':=⟨by rw [←h.length_eq];exact hl.1,h.nodup_iff.1 hl.2.1,fun x hx=>hl.2.2 x (h.mem_iff.2 hx)⟩
/-- Exchanging what may be exchanged costs nothing. -/
theorem tie_swap {jobs:List J} {a:Int} (hr:RuledOk jobs a) (pre:List Int) (x y:Int) (suf:List Int) (hl:IsPerm jobs.length (pre++x::y::suf)) (h:gapLt jobs a x y=false):valT jobs a (pre++y::x::suf)≤valT jobs a (pre++x::y::suf):=by
 have hl':IsPerm jobs.length (pre++y::x::suf):=perm_isPerm (List.Perm.append_left _ (List.Perm.swap _ _ _)) hl
 have hn:0<jobs.length:=by have:=hl.1;simp at this;omega
 have hp:∀ z,0≤pT jobs z:=fun z=>by
  unfold pT
  rcases rdJ_any jobs z with h|h
  ·have:=hr.1.2 _ h;unfold JobOk at this;omega
  ·rw [h];decide
 have hg:=of_decide_eq_false h
 obtain ⟨hj,ha,hrel⟩:=hr
 by_cases a1:a=1
 ·subst a1
  rw [val1 hj hl' hn]
  refine feasE_swap hp ?_ suf pre 0 ((val1 hj hl hn _).1 (Int.le_refl _))
  unfold gapF at hg;rw [if_pos rfl] at hg;unfold rT;omega
 have hpl:PlainOk jobs:=⟨hj,hrel a1⟩
 by_cases a2:a=2
 ·subst a2
  rw [val2 hpl hl,val2 hpl hl',sumC_swap]
  unfold gapF at hg;rw [if_neg (by omega),if_pos rfl] at hg;unfold pT;omega
 by_cases a3:a=3
 ·subst a3
  rw [val3 hpl hl,val3 hpl hl',sumW_swap]
  unfold gapF at hg;rw [if_neg (by omega),if_neg (by omega),if_pos rfl] at hg;unfold pT wT;omega
 ·have a4:a=4:=by omega
  subst a4
  rw [val4 hpl hl' hn]
  refine feasF_swap hp ?_ suf pre 0 ((val4 hpl hl hn _).1 (Int.le_refl _))
  unfold gapF at hg;rw [if_neg (by omega),if_neg (by omega),if_neg (by omega)] at hg;unfold dT;omega
theorem tie_gain {jobs:List J} {a:Int} (hr:RuledOk jobs a) (ha:a=2∨a=3) (pre:List Int) (x y:Int) (suf:List Int) (hl:IsPerm jobs.length (pre++x::y::suf)) (h:gapLt jobs a y x=true):valT jobs a (pre++y::x::suf)<valT jobs a (pre++x::y::suf):=by
 have hl':IsPerm jobs.length (pre++y::x::suf):=perm_isPerm (List.Perm.append_left _ (List.Perm.swap _ _ _)) hl
 have hg:=of_decide_eq_true h
 obtain ⟨hj,_,hrel⟩:=hr
 have hpl:PlainOk jobs:=⟨hj,hrel (by omega)⟩
 rcases ha with rfl|rfl
 ·rw [val2 hpl hl,val2 hpl hl',sumC_swap]
  unfold gapF at hg;rw [if_neg (by omega),if_pos rfl] at hg;unfold pT;omega
 ·rw [val3 hpl hl,val3 hpl hl',sumW_swap]
  unfold gapF at hg;rw [if_neg (by omega),if_neg (by omega),if_pos rfl] at hg;unfold pT wT;omega
theorem gap_pre {jobs:List J} (hj:JobsOk jobs) (a:Int):Pre (gapLt jobs a) (fun y=>0≤y∧y<(jobs.length:Int)):=by
 have at_:∀ x:Int,0≤x∧x<(jobs.length:Int)→1≤pT jobs x∧0≤wT jobs x:=fun x hx=>by
  unfold pT wT
  rw [rdJ_int hx.1 hx.2]
  have:=hj.2 _ (List.getElem_mem (show x.toNat<jobs.length by omega))
  exact ⟨this.1.1,this.2.1.1⟩
 refine ⟨fun x y z hx hy hz h1 h2=>?_,fun x y hx hy h1=>?_⟩
 ·have h1:=of_decide_eq_false h1
  have h2:=of_decide_eq_false h2
  refine decide_eq_false ?_
  unfold gapF at *
  by_cases a1:a=1
  ·rw [if_pos a1] at *;omega
  by_cases a2:a=2
  ·rw [if_neg a1,if_pos a2] at *;omega
  by_cases a3:a=3
  ·rw [if_neg a1,if_neg a2,if_pos a3] at *
   have k1:=at_ x hx
   have k2:=at_ y hy
   have k3:=at_ z hz
   unfold pT wT at k1 k2 k3
   generalize (rd_T44 jobs x).f0=ta at *
   generalize (rd_T44 jobs x).f1=wa at *
   generalize (rd_T44 jobs y).f0=tb at *
   generalize (rd_T44 jobs y).f1=wb at *
   generalize (rd_T44 jobs z).f0=tc at *
   generalize (rd_T44 jobs z).f1=wc at *
   have q1':ta * wb≤tb * wa:=by omega
   have q2':tb * wc≤tc * wb:=by omega
   have m1:=Int.mul_le_mul_of_nonneg_left q2' (show 0≤ta by omega)
   have m2:=Int.mul_le_mul_of_nonneg_left q1' (show 0≤tc by omega)
   have e1:ta * (tb * wc)=tb * (ta * wc):=by rw [←Int.mul_assoc,Int.mul_comm ta tb,Int.mul_assoc]
   have e2:ta * (tc * wb)=tc * (ta * wb):=by rw [←Int.mul_assoc,Int.mul_comm ta tc,Int.mul_assoc]
   have e3:tc * (tb * wa)=tb * (tc * wa):=by rw [←Int.mul_assoc,Int.mul_comm tc tb,Int.mul_assoc]
   have m3:tb * (ta * wc)≤tb * (tc * wa):=by rw [←e1,←e3];exact Int.le_trans m1 (by rw [e2];exact m2)
   have m4:=Int.le_of_mul_le_mul_left m3 (by omega)
   omega
  ·rw [if_neg a1,if_neg a2,if_neg a3] at *;omega
 ·have h1:=of_decide_eq_true h1
  refine decide_eq_false ?_
  rw [gapF_neg];omega

theorem diff_gap {jobs:List J} (hj:JobsOk jobs) (a:Int) {x y:Int} (hx:0≤x∧x<(jobs.length:Int)) (hy:0≤y∧y<(jobs.length:Int)):diffO jobs a x y=some (gapF a (rd_T44 jobs x) (rd_T44 jobs y)):=by
 unfold diffO
 have k1:=hj.2 _ (List.getElem_mem (show x.toNat<jobs.length by omega))
 have k2:=hj.2 _ (List.getElem_mem (show y.toNat<jobs.length by omega))
 rw [←rdJ_int hx.1 hx.2] at k1
 rw [←rdJ_int hy.1 hy.2] at k2
 exact impl_difference.eq _ _ a k1 k2
theorem impl_ruledOrder.gap {jobs:List J} (hj:JobsOk jobs) (a:Int):Ev (fun k=>impl_ruledOrder.f k jobs a) (sortN (gapLt jobs a) jobs.length):=by
 have h8:=hj.1
 unfold impl_ruledOrder.f
 refine ev_bind _ (impl_numbersTo.ev jobs.length (by omega)) ?_
 rw [if_pos ⟨by rw [nums_to_length];omega,fun x hx=>mem_nums_to.1 hx,fun x hx y hy=>by rw [diff_gap hj a (mem_nums_to.1 hx) (mem_nums_to.1 hy)];rfl⟩]
 have e:insAll (ruledLt jobs a) (nums_to jobs.length) []=sortN (gapLt jobs a) jobs.length:=by
  unfold sortN
  refine insAll_congr (P:=fun x=>0≤x∧x<(jobs.length:Int)) (fun x y hx hy=>?_) _ _ (fun y hy=>mem_nums_to.1 hy) (fun y hy=>by cases hy)
  unfold ruledLt gapLt
  rw [diff_gap hj a hx hy,Option.getD_some,gapF_neg]
  exact decide_eq_decide.2 (by omega)
 rw [e]
 exact Ev.now _
def tieE (jobs:List J) (a:Int) (x y:Int):Bool:=decide (gapF a (rd_T44 jobs x) (rd_T44 jobs y)=0)
theorem tieE_tie (jobs:List J) (a x y:Int):tieE jobs a x y=tieB (gapLt jobs a) x y:=by
 unfold tieE tieB gapLt
 rw [gapF_neg a (rd_T44 jobs y) (rd_T44 jobs x)]
 generalize gapF a (rd_T44 jobs x) (rd_T44 jobs y)=g
 by_cases h:g=0
 ·subst h;decide
 ·by_cases h1:0<g
  ·rw [decide_eq_false h,decide_eq_true h1];simp
  ·rw [decide_eq_false h,decide_eq_true (show 0 < -g by omega)];simp
/-- groups of what is tied, out of a list -/
def grpL (e:Int→Int→Bool):List (List Int)→Int→List Int→List Int→List (List Int)
 | D,_,g,[]=>D++[g]
 | D,c,g,x::r=>if e c x=true then grpL e D c (g++[x]) r else grpL e (D++[g]) x [x] r
def groupsL (e:Int→Int→Bool):List Int→List (List Int)
 | []=>[]
 | x::r=>grpL e [] x [x] r
theorem grpL_flat (e:Int→Int→Bool):∀ (r:List Int) (D:List (List Int)) (c:Int) (g:List Int),(grpL e D c g r).flatten=D.flatten++(g++r)
 | [],D,c,g=>by simp [grpL]
 | x::r,D,c,g=>by
  rw [grpL]
  split
  ·rw [grpL_flat e r];simp
  ·rw [grpL_flat e r];simp
theorem groupsL_flat (e:Int→Int→Bool) (l:List Int):(groupsL e l).flatten=l:=by
 cases l with
 | nil=>rfl
 | cons x r=>rw [groupsL,grpL_flat];simp
/-- each group: one ahead, and all tied with it -/
def GrpOk (e:Int→Int→Bool) (g:List Int):Prop:=∃ c r,g=c::r∧∀ y ∈ g,e c y=true
theorem grpL_ok (e:Int→Int→Bool) (P:Int→Prop) (hr:∀ x,P x→e x x=true):∀ (r:List Int) (D:List (List Int)) (c:Int) (g:List Int),(∀ y ∈ r,P y)→(∀ h ∈ D,GrpOk e h)→(∃ g',g=c::g')→(∀ y ∈ g,e c y=true)→∀ h ∈ grpL e D c g r,GrpOk e h
 | [],D,c,g,_,hD,hg,hc,h,hm=>by
  rw [grpL] at hm
  rcases List.mem_append.1 hm with hm|hm
  ·exact hD h hm
  ·rw [List.mem_singleton.1 hm]
   obtain ⟨g',rfl⟩:=hg
   exact ⟨c,g',rfl,hc⟩
 | x::r,D,c,g,hP,hD,hg,hc,h,hm=>by
  rw [grpL] at hm
  split at hm
  ·rename_i hx
   refine grpL_ok e P hr r D c (g++[x]) (fun y hy=>hP y (List.mem_cons_of_mem _ hy)) hD (by obtain ⟨g',rfl⟩:=hg;exact ⟨g'++[x],rfl⟩) (fun y hy=>?_) h hm
   rcases List.mem_append.1 hy with hy|hy
   ·exact hc y hy
   ·rw [List.mem_singleton.1 hy];exact hx
  ·refine grpL_ok e P hr r (D++[g]) x [x] (fun y hy=>hP y (List.mem_cons_of_mem _ hy)) (fun h' hh=>?_) ⟨[],rfl⟩ (fun y hy=>?_) h hm
   ·rcases List.mem_append.1 hh with hh|hh
    ·exact hD h' hh
    ·rw [List.mem_singleton.1 hh]
     obtain ⟨g',rfl⟩:=hg
     exact ⟨c,g',rfl,hc⟩
   ·rw [List.mem_singleton.1 hy];exact hr x (hP x List.mem_cons_self)
theorem groupsL_ok (e:Int→Int→Bool) (P:Int→Prop) (hr:∀ x,P x→e x x=true) (l:List Int) (hP:∀ y ∈ l,P y):∀ h ∈ groupsL e l,GrpOk e h:=by
 cases l with
 | nil=>intro h hh;cases hh
 | cons x r=>
  refine grpL_ok e P hr r [] x [x] (fun y hy=>hP y (List.mem_cons_of_mem _ hy)) (fun h hh=>by cases hh) ⟨[],rfl⟩ (fun y hy=>?_)
  rw [List.mem_singleton.1 hy];exact hr x (hP x List.mem_cons_self)
/-- j + 1, .., j + c multiplied -/
def risF:Nat→Nat→Nat
 | _,0=>1
 | j,c + 1=>(j + 1) * risF (j + 1) c
theorem risF_snoc:∀ c j,risF j (c + 1)=risF j c * (j + c + 1)
 | 0,j=>by simp [risF]
 | c + 1,j=>by
  rw [risF,risF_snoc c (j + 1),risF,Nat.mul_assoc,show j + 1 + c + 1=j + (c + 1) + 1 by omega]
def facN (n:Nat):Nat:=risF 0 n
theorem facN_succ (n:Nat):facN (n + 1)=(n + 1) * facN n:=by unfold facN;rw [risF_snoc,Nat.mul_comm,Nat.zero_add]
def facG:List (List Int)→Nat
 | []=>1
 | g::G=>facN g.length * facG G
theorem facG_app:∀ (D E:List (List Int)),facG (D++E)=facG D * facG E
 | [],E=>by simp [facG]
 | g::D,E=>by rw [List.cons_append,facG,facG,facG_app D E,Nat.mul_assoc]
theorem facT_grp {lt:Int→Int→Bool} {P:Int→Prop} (hp:Pre lt P):∀ (g r:List Int),(∀ y ∈ g,P y)→(∀ x ∈ g,∀ y ∈ g,tieB lt x y=true)→(∀ x ∈ g,∀ y ∈ r,tieB lt x y=false)→facT lt (g++r)=facN g.length * facT lt r
 | [],r,_,_,_=>by simp [facN,risF]
 | x::g,r,hP,h1,h2=>by
  have ih:=facT_grp hp g r (fun y hy=>hP y (List.mem_cons_of_mem _ hy)) (fun a ha b hb=>h1 a (List.mem_cons_of_mem _ ha) b (List.mem_cons_of_mem _ hb)) (fun a ha=>h2 a (List.mem_cons_of_mem _ ha))
  have c1:(x::g).countP (tieB lt x)=(x::g).length:=List.countP_eq_length.2 (fun y hy=>h1 x List.mem_cons_self y hy)
  have c2:r.countP (tieB lt x)=0:=List.countP_eq_zero.2 (fun y hy=>by rw [h2 x List.mem_cons_self y hy];decide)
  rw [List.cons_append,facT,ih,←List.cons_append,List.countP_append,c1,c2,Nat.add_zero,List.length_cons,facN_succ,Nat.mul_assoc]
theorem grpL_fac {lt:Int→Int→Bool} {P:Int→Prop} (hp:Pre lt P):∀ (r:List Int) (D:List (List Int)) (c:Int) (g:List Int),(∀ y ∈ g++r,P y)→P c→(∀ y ∈ g,tieB lt c y=true)→SortedLt lt (c::r)→facG (grpL (tieB lt) D c g r)=facG D * facT lt (g++r)
 | [],D,c,g,hP,hc,h,_=>by
  have:=facT_grp hp g [] (fun y hy=>hP y (by simpa using hy)) (fun x hx y hy=>tie_trans hp (hP x (by simpa using hx)) hc (hP y (by simpa using hy)) (tie_symm (h x hx)) (h y hy)) (fun x _ y hy=>by cases hy)
  rw [grpL,facG_app,this];simp [facG,facT]
 | x::r,D,c,g,hP,hc,h,hs=>by
  have hs':=List.pairwise_cons.1 hs
  have hs2:=List.pairwise_cons.1 hs'.2
  have hx:P x:=hP x (by simp)
  rw [grpL]
  by_cases e:tieB lt c x=true
  ·rw [if_pos e,grpL_fac hp r D c (g++[x]) (fun y hy=>hP y (by simpa using hy)) hc (fun y hy=>by
    rcases List.mem_append.1 hy with hy|hy
    ·exact h y hy
    ·rw [List.mem_singleton.1 hy];exact e) (List.pairwise_cons.2 ⟨fun y hy=>hs'.1 y (List.mem_cons_of_mem _ hy),hs2.2⟩)]
   simp
  ·rw [if_neg e,grpL_fac hp r (D++[g]) x [x] (fun y hy=>hP y (by simp at hy ⊢;exact .inr hy)) hx (fun y hy=>by rw [List.mem_singleton.1 hy];exact tie_self hp hx) hs'.2,facG_app]
   have:=facT_grp hp g (x::r) (fun y hy=>hP y (by simp [hy])) (fun a ha b hb=>tie_trans hp (hP a (by simp [ha])) hc (hP b (by simp [hb])) (tie_symm (h a ha)) (h b hb)) (fun a ha z hz=>by
    refine Bool.eq_false_iff.2 fun ht=>e ?_
    have hz':P z:=hP z (by simp at hz ⊢;exact .inr hz)
    have hcz:tieB lt c z=true:=tie_trans hp hc (hP a (by simp [ha])) hz' (h a ha) ht
    have q1:lt x c=false:=hs'.1 x List.mem_cons_self
    have q2:lt z x=false:=by
     rcases List.mem_cons.1 hz with rfl|hz
     ·exact (tie_iff.1 (tie_self hp hx)).1
     ·exact hs2.1 z hz
    exact tie_iff.2 ⟨hp.trans x z c hx hz' hc q2 (tie_iff.1 hcz).1,q1⟩)
   rw [this];simp [facG,Nat.mul_assoc]
theorem groupsL_fac {lt:Int→Int→Bool} {P:Int→Prop} (hp:Pre lt P) (l:List Int) (hP:∀ y ∈ l,P y) (hs:SortedLt lt l):facG (groupsL (tieB lt) l)=facT lt l:=by
 cases l with
 | nil=>rfl
 | cons x r=>
  rw [groupsL,grpL_fac hp r [] x [x] (fun y hy=>hP y (by simpa using hy)) (hP x List.mem_cons_self) (fun y hy=>by rw [List.mem_singleton.1 hy];exact tie_self hp (hP x List.mem_cons_self)) hs]
  simp [facG]
theorem grpL_sizes (e:Int→Int→Bool):∀ (r:List Int) (D:List (List Int)) (c:Int) (g:List Int),(grpL e D c g r).length≤D.length + 1 + r.length
 | [],D,c,g=>by simp [grpL]
 | x::r,D,c,g=>by
  rw [grpL]
  split
  ·have:=grpL_sizes e r D c (g++[x]);simp only [List.length_cons];omega
  ·have:=grpL_sizes e r (D++[g]) x [x];simp only [List.length_cons,List.length_append,List.length_nil] at this ⊢;omega
theorem groupsL_len (e:Int→Int→Bool) (l:List Int):(groupsL e l).length≤l.length:=by
 cases l with
 | nil=>simp [groupsL]
 | cons x r=>have:=grpL_sizes e r [] x [x];rw [groupsL];simp at this ⊢;omega
theorem row_le:∀ {G:List (List Int)} {g:List Int},g ∈ G→g.length≤G.flatten.length
 | h::G,g,hm=>by
  rw [List.flatten_cons,List.length_append]
  rcases List.mem_cons.1 hm with rfl|hm
  ·omega
  ·have:=row_le hm;omega
theorem set_snoc {α:Type} (D:List α) (g h:α):(D++[g]).set D.length h=D++[h]:=by
 rw [List.set_append_right _ _ (Nat.le_refl _)];simp
theorem rdL_snoc (D:List (List Int)) (g:List Int):rd_L3 (D++[g]) (D.length:Int)=g:=by
 rw [rdL_nat (by simp)];simp
theorem last_ix {α:Type} (D:List α) (g:α) (h:D.length≤1000):wrap64 ((((D++[g]).length:Nat):Int) - 1)=(D.length:Int):=by
 rw [List.length_append,List.length_singleton,wr (by omega) (by omega)];omega
theorem spec_groups {jobs:List J} (hj:JobsOk jobs) (a:Int) (o:List Int) (ho:IsPerm jobs.length o):∀ i,i≤o.length→∀ (D:List (List Int)) (c:Int) (g':List Int),0≤c∧c<(jobs.length:Int)→D.length≤i→g'.length≤i→Ev (fun k=>spec_l3Groups.l0 k jobs a (D++[c::g']) o (i:Int)) (grpL (tieE jobs a) D c (c::g') (o.drop i)):=by
 have h8:=hj.1
 have hol:=ho.1
 refine rev_ind o.length ?_ ?_
 ·intro D c g' hc hD hg
  rw [List.drop_length,grpL]
  refine ev_stop fun k=>?_
  simp only [spec_l3Groups.l0];rw [if_neg (by omega)]
 ·intro i hi ih D c g' hc hD hg
  have hx:=ho.2.2 _ (List.getElem_mem hi)
  rw [drop_cons hi,grpL]
  have hl:=last_ix D (c::g') (by omega)
  have hgap:=spec_l3Gap.eqI jobs a c o[i] hc hx hj
  have e0:rd (c::g') 0=c:=rd_zero (by simp)
  by_cases e:tieE jobs a c o[i]=true
  ·rw [if_pos e]
   refine ev_go _ (fun k=>?_) (ih D c (g'++[o[i]]) hc (by omega) (by rw [List.length_append,List.length_singleton];omega))
   have e2:=of_decide_eq_true e
   simp only [spec_l3Groups.l0]
   rw [if_pos (by omega),hl,if_pos (by omega),if_pos (by omega),if_pos (by rw [List.length_append,List.length_singleton];omega),rdL_snoc,if_pos (by rw [List.length_cons];omega),if_pos (by omega),e0,rd_nat hi,hgap,Option.bind_some,if_pos e2,if_pos (by rw [List.length_cons];omega),wr1 (by omega),Int.toNat_natCast,set_snoc]
   rfl
  ·rw [if_neg e]
   refine ev_go _ (fun k=>?_) (ih (D++[c::g']) o[i] [] hx (by rw [List.length_append,List.length_singleton];omega) (by simp))
   have e2:¬ gapF a (rd_T44 jobs c) (rd_T44 jobs o[i])=0:=fun h=>e (decide_eq_true h)
   simp only [spec_l3Groups.l0]
   rw [if_pos (by omega),hl,if_pos (by omega),if_pos (by omega),if_pos (by rw [List.length_append,List.length_singleton];omega),rdL_snoc,if_pos (by rw [List.length_cons];omega),if_pos (by omega),e0,rd_nat hi,hgap,Option.bind_some,if_neg e2,if_pos (by rw [List.length_append,List.length_singleton];omega),wr1 (by omega)]
theorem spec_l3Groups.ev {jobs:List J} (hj:JobsOk jobs) (a:Int):Ev (fun k=>spec_l3Groups.f k jobs a) (groupsL (tieE jobs a) (sortN (gapLt jobs a) jobs.length)):=by
 have hp:=sortN_isPerm (gapLt jobs a) jobs.length
 have h8:=hj.1
 unfold spec_l3Groups.f
 refine ev_bind _ (spec_l3Order.ev jobs a hj (gap_pre hj a)) ?_
 generalize sortN (gapLt jobs a) jobs.length=o at hp ⊢
 cases o with
 | nil=>
  refine ev_stop fun k=>?_
  simp only [spec_l3Groups.l0];rw [if_neg (by simp)];rfl
 | cons x r=>
  have hx:=hp.2.2 x List.mem_cons_self
  refine ev_go _ (fun k=>?_) (spec_groups hj a (x::r) hp 1 (by simp) [] x [] hx (by simp) (by simp))
  simp only [spec_l3Groups.l0]
  rw [if_pos (by simp),if_neg (by rw [wr (by simp) (by simp)];simp),if_pos (by omega),if_pos (by simp),rd_zero (by simp),wr (by omega) (by omega)]
  rfl
theorem impl_groups {jobs:List J} (hj:JobsOk jobs) (a:Int) (o:List Int) (ho:IsPerm jobs.length o):∀ i,i≤o.length→1≤i→∀ (D:List (List Int)) (c:Int) (g':List Int),0≤c∧c<(jobs.length:Int)→(∀ h:i - 1<o.length,tieE jobs a c o[i - 1]=true)→D.length≤i→g'.length≤i→Ev (fun k=>impl_tieGroups.l0 k jobs a (D++[c::g']) o o (o.length:Int) (i:Int)) (grpL (tieE jobs a) D c (c::g') (o.drop i)):=by
 have h8:=hj.1
 have hol:=ho.1
 refine rev_ind o.length ?_ ?_
 ·intro _ D c g' hc _ hD hg
  rw [List.drop_length,grpL]
  refine ev_stop fun k=>?_
  simp only [impl_tieGroups.l0];rw [if_neg (by omega)]
 ·intro i hi ih h1 D c g' hc hprev hD hg
  have hx:=ho.2.2 _ (List.getElem_mem hi)
  have hpi:i - 1<o.length:=by omega
  have hp:=ho.2.2 _ (List.getElem_mem hpi)
  have hpr:=hprev hpi
  rw [drop_cons hi,grpL]
  have hl:=last_ix D (c::g') (by omega)
  have hgap:=diff_gap hj a hp hx
  unfold diffO at hgap
  have w1:wrap64 ((i:Int) - 1)=((i - 1:Nat):Int):=by rw [wr (by omega) (by omega)];omega
  have same:tieE jobs a c o[i]=tieE jobs a o[i - 1] o[i]:=by
   have hP:=gap_pre hj a
   rw [tieE_tie] at hpr
   rw [tieE_tie,tieE_tie]
   cases q:tieB (gapLt jobs a) c o[i] with
   | true=>exact (tie_trans hP hp hc hx (tie_symm hpr) q).symm
   | false=>
    cases q2:tieB (gapLt jobs a) o[i - 1] o[i] with
    | true=>have:=tie_trans hP hc hp hx hpr q2;rw [q] at this;cases this
    | false=>rfl
  by_cases e:tieE jobs a c o[i]=true
  ·rw [if_pos e]
   refine ev_go _ (fun k=>?_) (ih (by omega) D c (g'++[o[i]]) hc (fun h=>by simpa using e) (by omega) (by rw [List.length_append,List.length_singleton];omega))
   rw [same] at e
   have e2:=of_decide_eq_true e
   simp only [impl_tieGroups.l0]
   rw [if_pos (by omega),if_pos (by omega),if_pos (by omega),if_neg (by omega),w1,if_pos (by omega),if_pos (by omega),rd_nat hpi,rd_nat hi,if_pos hp.1,if_pos hp.2,if_pos hx.1,if_pos hx.2,hgap,Option.bind_some,if_pos e2,hl,if_pos (by omega),if_pos (by rw [List.length_append,List.length_singleton];omega),rdL_snoc,if_pos (by rw [List.length_cons];omega),wr1 (by omega),Int.toNat_natCast,set_snoc]
   rfl
  ·rw [if_neg e]
   refine ev_go _ (fun k=>?_) (ih (by omega) (D++[c::g']) o[i] [] hx (fun h=>by
    have:tieE jobs a o[i] o[i]=true:=by unfold tieE;refine decide_eq_true ?_;unfold gapF;split;omega;split;omega;split <;> omega
    simpa using this) (by rw [List.length_append,List.length_singleton];omega) (by simp))
   rw [same] at e
   have e2:¬ gapF a (rd_T44 jobs o[i - 1]) (rd_T44 jobs o[i])=0:=fun h=>e (decide_eq_true h)
   have hl2:=last_ix (D++[c::g']) [] (by rw [List.length_append,List.length_singleton];omega)
   simp only [impl_tieGroups.l0]
   rw [if_pos (by omega),if_pos (by omega),if_pos (by omega),if_neg (by omega),w1,if_pos (by omega),if_pos (by omega),rd_nat hpi,rd_nat hi,if_pos hp.1,if_pos hp.2,if_pos hx.1,if_pos hx.2,hgap,Option.bind_some,if_neg e2,if_pos (by rw [List.length_append,List.length_singleton];omega),Option.bind_some,hl2,if_pos (by omega),if_pos (by simp),rdL_snoc,if_pos (by simp),wr1 (by omega),Int.toNat_natCast,set_snoc]
   rfl
theorem impl_tieGroups.ev {jobs:List J} (hj:JobsOk jobs) (a:Int):Ev (fun k=>impl_tieGroups.f k jobs a) (groupsL (tieE jobs a) (sortN (gapLt jobs a) jobs.length)):=by
 have hp:=sortN_isPerm (gapLt jobs a) jobs.length
 have h8:=hj.1
 unfold impl_tieGroups.f
 refine ev_bind _ (impl_ruledOrder.gap hj a) ?_
 generalize sortN (gapLt jobs a) jobs.length=o at hp ⊢
 cases o with
 | nil=>
  refine ev_stop fun k=>?_
  simp only [impl_tieGroups.l0];rw [if_neg (by simp)];rfl
 | cons x r=>
  have hx:=hp.2.2 x List.mem_cons_self
  refine ev_go _ (fun k=>?_) (impl_groups hj a (x::r) hp 1 (by simp) (Nat.le_refl _) [] x [] hx (fun h=>by
    have:tieE jobs a x x=true:=by unfold tieE;refine decide_eq_true ?_;unfold gapF;split;omega;split;omega;split <;> omega
    simpa using this) (by simp) (by simp))
  have hl:=last_ix ([]:List (List Int)) [] (by simp)
  simp only [impl_tieGroups.l0]
  rw [if_pos (by simp),if_pos (by omega),if_pos (by simp),if_pos trivial,if_pos (by simp),Option.bind_some,hl,if_pos (by simp),if_pos (by simp),if_pos (by simp [rd_L3]),rd_zero (by simp),wr (by omega) (by omega)]
  rfl

theorem facN_le:∀ n,n≤8→facN n≤40320:=by decide
theorem ris_le (B:Nat):∀ (c j:Nat),j + c≤B→risF j c≤B ^ c
 | 0,j,_=>by simp [risF]
 | c + 1,j,h=>by
  rw [risF,Nat.pow_succ,Nat.mul_comm]
  exact Nat.mul_le_mul (ris_le B c (j + 1) (by omega)) (by omega)
def totG (G:List (List Int)):Nat:=G.flatten.length
theorem totG_cons (g:List Int) (G:List (List Int)):totG (g::G)=g.length + totG G:=by simp [totG]
theorem pow_pos8 (c:Nat):1≤8 ^ c:=Nat.one_le_pow _ _ (by omega)
theorem acc_step {v x c T:Nat} (h:v * 8 ^ (c + 1)≤T) (hx:x≤8):v * x * 8 ^ c≤T:=by
 refine Nat.le_trans ?_ h
 rw [Nat.mul_assoc,Nat.pow_succ,Nat.mul_comm (8 ^ c) 8]
 exact Nat.mul_le_mul_left _ (Nat.mul_le_mul_right _ hx)
theorem acc_le {v c T:Nat} (h:v * 8 ^ c≤T):v≤T:=Nat.le_trans (Nat.le_mul_of_pos_right v (pow_pos8 c)) h
theorem impl_count (G:List (List Int)) (hG:G.length≤1000) (hr:∀ g ∈ G,g.length≤8):∀ i,i≤G.length→∀ v:Nat,v * 8 ^ totG (G.drop i)≤1000000000→Ev (fun k=>impl_CountRuled.l0 k (v:Int) G (G.length:Int) (i:Int)) (((v * facG (G.drop i):Nat):Int),true):=by
 refine rev_ind G.length ?_ ?_
 ·intro v _
  refine ev_stop fun k=>?_
  simp only [impl_CountRuled.l0];rw [if_neg (by omega),List.drop_length,facG,Nat.mul_one]
 ·intro i hi ih v hv
  have hrow:=hr _ (List.getElem_mem hi)
  rw [drop_cons hi,totG_cons] at hv
  rw [drop_cons hi,facG]
  have inner:=rev_ind (P:=fun j=>∀ v:Nat,v * 8 ^ (G[i].length - j + totG (G.drop (i + 1)))≤1000000000→Ev (fun k=>impl_CountRuled.l1 k (v:Int) G (G.length:Int) (i:Int) (G[i].length:Int) (j:Int)) (((v * risF j (G[i].length - j) * facG (G.drop (i + 1)):Nat):Int),true)) G[i].length ?_ ?_ 0 (Nat.zero_le _) v (by simpa using hv)
  ·refine ev_go _ (fun k=>?_) (ev_eq inner (by rw [Nat.sub_zero,Nat.mul_assoc];rfl))
   simp only [impl_CountRuled.l0];rw [if_pos (by omega),if_pos (by omega),if_pos (by omega),rdL_nat hi];rfl
  ·intro v hv
   rw [Nat.sub_self,Nat.zero_add] at hv
   refine ev_go _ (fun k=>?_) (ev_eq (ih v hv) (by rw [Nat.sub_self,risF,Nat.mul_one]))
   simp only [impl_CountRuled.l1];rw [if_neg (by omega),wr1 (by omega)]
  ·intro j hj ihj v hv
   rw [show G[i].length - j=(G[i].length - (j + 1)) + 1 by omega] at hv ⊢
   rw [Nat.add_right_comm] at hv
   have hv2:=acc_step hv (show j + 1≤8 by omega)
   have hv3:=acc_le hv2
   refine ev_go _ (fun k=>?_) (ev_eq (ihj (v * (j + 1)) hv2) (by rw [risF,Nat.mul_assoc v]))
   simp only [impl_CountRuled.l1];rw [if_pos (by omega),wr1 (by omega),wr (x:=(v:Int) * ((j + 1:Nat):Int)) (by rw [←Int.natCast_mul];omega) (by rw [←Int.natCast_mul];omega),Int.natCast_mul]
theorem spec_count (G:List (List Int)) (hG:G.length≤1000) (hr:∀ g ∈ G,g.length≤8):∀ i,i≤G.length→∀ v:Nat,v * 8 ^ totG (G.drop i)≤1000000000→Ev (fun k=>spec_CountRuled.l0 k (v:Int) G (i:Int)) (((v * facG (G.drop i):Nat):Int),true):=by
 refine rev_ind G.length ?_ ?_
 ·intro v _
  refine ev_stop fun k=>?_
  simp only [spec_CountRuled.l0];rw [if_neg (by omega),List.drop_length,facG,Nat.mul_one]
 ·intro i hi ih v hv
  have hrow:=hr _ (List.getElem_mem hi)
  rw [drop_cons hi,totG_cons] at hv
  rw [drop_cons hi,facG]
  have step:∀ d j:Nat,1≤j→(j≤G[i].length→G[i].length - j=d)→(G[i].length<j→d=0)→∀ v:Nat,v * 8 ^ (d + totG (G.drop (i + 1)))≤1000000000→Ev (fun k=>spec_CountRuled.l1 k (v:Int) G (i:Int) ((j + 1:Nat):Int)) (((v * risF j d * facG (G.drop (i + 1)):Nat):Int),true):=by
   intro d
   induction d with
   | zero=>
    intro j h1 h2 h3 v hv
    rw [Nat.zero_add] at hv
    refine ev_go _ (fun k=>?_) (ev_eq (ih v hv) (by rw [risF,Nat.mul_one]))
    simp only [spec_CountRuled.l1]
    rw [if_pos (by omega),if_pos (by omega),rdL_nat hi,if_neg (by omega),wr1 (by omega)]
   | succ d ihd=>
    intro j h1 h2 h3 v hv
    have hjl:j≤G[i].length:=by omega
    have hd:=h2 hjl
    rw [Nat.add_right_comm] at hv
    have hv2:=acc_step hv (show j + 1≤8 by omega)
    have hv3:=acc_le hv2
    refine ev_go _ (fun k=>?_) (ev_eq (ihd (j + 1) (by omega) (by omega) (by omega) (v * (j + 1)) hv2) (by rw [risF,Nat.mul_assoc v]))
    simp only [spec_CountRuled.l1]
    rw [if_pos (by omega),if_pos (by omega),rdL_nat hi,if_pos (by omega),wr1 (by omega),wr (x:=(v:Int) * ((j + 1:Nat):Int)) (by rw [←Int.natCast_mul];omega) (by rw [←Int.natCast_mul];omega),Int.natCast_mul]
  have start:=step (G[i].length - 1) 1 (Nat.le_refl _) (fun _=>rfl) (fun h=>by omega) v (Nat.le_trans (Nat.mul_le_mul_left _ (Nat.pow_le_pow_right (by omega) (by omega))) hv)
  refine ev_go _ (fun k=>?_) (ev_eq start ?_)
  ·simp only [spec_CountRuled.l0];rw [if_pos (by omega)];rfl
  ·have:risF 1 (G[i].length - 1)=facN G[i].length:=by
    unfold facN
    cases h:G[i].length with
    | zero=>rfl
    | succ n=>rw [Nat.add_sub_cancel,risF,Nat.zero_add,Nat.one_mul]
   rw [this,Nat.mul_assoc]
theorem groups_sizes {jobs:List J} (hj:JobsOk jobs) (a:Int):(groupsL (tieE jobs a) (sortN (gapLt jobs a) jobs.length)).length≤8∧(∀ g ∈ groupsL (tieE jobs a) (sortN (gapLt jobs a) jobs.length),g.length≤8)∧totG (groupsL (tieE jobs a) (sortN (gapLt jobs a) jobs.length))≤8:=by
 have hp:=sortN_isPerm (gapLt jobs a) jobs.length
 have h8:=hj.1
 have hl:=groupsL_len (tieE jobs a) (sortN (gapLt jobs a) jobs.length)
 rw [hp.1] at hl
 refine ⟨by omega,fun g hg=>?_,by unfold totG;rw [groupsL_flat,hp.1];omega⟩
 have:=row_le hg
 rw [groupsL_flat,hp.1] at this;omega
def manyF (jobs:List J) (a:Int):Nat:=facG (groupsL (tieE jobs a) (sortN (gapLt jobs a) jobs.length))
theorem acc_start {T:Nat} (h:T≤8):1 * 8 ^ T≤1000000000:=by
 rw [Nat.one_mul]
 exact Nat.le_trans (Nat.pow_le_pow_right (by omega) h) (by decide)
theorem impl_CountRuled.ok {jobs:List J} {a:Int} (hr:RuledOk jobs a):Ev (fun k=>impl_CountRuled.f k jobs a) ((manyF jobs a:Int),true):=by
 have h8:=hr.1.1
 unfold impl_CountRuled.f
 refine ev_guard' (impl_isRuled.ev jobs a (by omega)) (fun _=>?_) (fun hn=>absurd hr hn)
 have hs:=groups_sizes hr.1 a
 refine ev_bind _ (impl_tieGroups.ev hr.1 a) ?_
 exact ev_eq (impl_count _ (by omega) hs.2.1 0 (Nat.zero_le _) 1 (by rw [List.drop_zero];exact acc_start hs.2.2)) (by rw [List.drop_zero,Nat.one_mul];rfl)
theorem impl_CountRuled.no {jobs:List J} {a:Int} (h:jobs.length≤1000) (hr:¬ RuledOk jobs a):Ev (fun k=>impl_CountRuled.f k jobs a) (0,false):=by
 unfold impl_CountRuled.f
 exact ev_guard' (impl_isRuled.ev jobs a (by omega)) (fun h=>absurd h hr) (fun _=>Ev.now _)
theorem spec_CountRuled.ok {jobs:List J} {a:Int} (hr:RuledOk jobs a):Ev (fun k=>spec_CountRuled.f k jobs a) ((manyF jobs a:Int),true):=by
 have h8:=hr.1.1
 unfold spec_CountRuled.f
 refine ev_guard' (spec_l3Ruled.ev jobs a (by omega)) (fun _=>?_) (fun hn=>absurd hr hn)
 have hs:=groups_sizes hr.1 a
 refine ev_bind _ (spec_l3Groups.ev hr.1 a) ?_
 exact ev_eq (spec_count _ (by omega) hs.2.1 0 (Nat.zero_le _) 1 (by rw [List.drop_zero];exact acc_start hs.2.2)) (by rw [List.drop_zero,Nat.one_mul];rfl)
theorem spec_CountRuled.no {jobs:List J} {a:Int} (h:jobs.length≤1000) (hr:¬ RuledOk jobs a):Ev (fun k=>spec_CountRuled.f k jobs a) (0,false):=by
 unfold spec_CountRuled.f
 exact ev_guard' (spec_l3Ruled.ev jobs a (by omega)) (fun h=>absurd h hr) (fun _=>Ev.now _)
/-- the best of all orders -/
def bstU (jobs:List J) (f:Int) (l:List Int) (s:List Int × Int × Int):List Int × Int × Int:=if s.2.2=0∨valT jobs f l<s.2.1 then (l,valT jobs f l,1) else if valT jobs f l=s.2.1 then (s.1,s.2.1,wrap64 (s.2.2 + 1)) else s
def bstF (jobs:List J) (f:Int):List Int × Int × Int:=(perms jobs.length (nums_to jobs.length)).foldl (fun s l=>bstU jobs f l s) ([],0,0)
theorem impl_valueOf.evT (jobs:List J) (l:List Int) (f:Int) (h:TwoOk jobs l):Ev (fun k=>impl_valueOf.f k jobs l f) (valT jobs f l):=by
 have h8:=h.1.1
 have hl:=h.2.1
 unfold impl_valueOf.f
 exact ev_bind (endsAll jobs l) (impl_endsOf.ev jobs l (by omega) (by omega) h.2.2.2) (ev_bind _ (impl_valueOfEnds.ev jobs _ f (endsAll_len jobs l) (by omega)) (Ev.now _))
theorem impl_best.evT (jobs:List J) (f:Int) (hj:JobsOk jobs):Ev (fun k=>impl_best.f k jobs f) (bstF jobs f):=by
 have h8:=hj.1
 unfold impl_best.f
 refine impl_eachOrder.ev (impl_best.step jobs f) (bstU jobs f) (fun _=>True) jobs.length (by omega) ([],0,0) (fun l hl s _=>⟨?_,trivial⟩) trivial
 unfold impl_best.step
 have hcp:=impl_copyInts.eq l (by have:=hl.1;omega)
 simp only [if_pos hcp]
 exact ev_bind _ (impl_valueOf.evT jobs l f ⟨hj,hl⟩) (Ev.now _)
theorem bst_fold (jobs:List J) (f:Int):∀ (P:List (List Int)) (s:List Int × Int × Int) (c:Nat),s.2.2=(c:Int)→0<c→c + P.length≤1000000000→
  ∃ m:Int,(P.foldl (fun s l=>bstU jobs f l s) s).2.1=m∧m≤s.2.1∧(∀ l ∈ P,m≤valT jobs f l)∧(m=s.2.1∨∃ l ∈ P,valT jobs f l=m)∧(P.foldl (fun s l=>bstU jobs f l s) s).2.2=(((if m=s.2.1 then c else 0) + P.countP (fun l=>decide (valT jobs f l=m)):Nat):Int)
 | [],s,c,hc,h0,h1=>⟨s.2.1,rfl,Int.le_refl _,(fun l hl=>by cases hl),.inl rfl,by simp [hc]⟩
 | l::P,s,c,hc,h0,h1=>by
  rw [List.length_cons] at h1
  rw [List.foldl_cons]
  by_cases c1:valT jobs f l<s.2.1
  ·have e:bstU jobs f l s=(l,valT jobs f l,1):=by unfold bstU;rw [if_pos (.inr c1)]
   rw [e]
   obtain ⟨m,h2,h3,h4,h5,h6⟩:=bst_fold jobs f P (l,valT jobs f l,1) 1 rfl (by omega) (by omega)
   have h3':m≤valT jobs f l:=h3
   refine ⟨m,h2,by omega,fun l' hl'=>?_,.inr ?_,?_⟩
   ·rcases List.mem_cons.1 hl' with rfl|hl'
    ·exact h3'
    ·exact h4 l' hl'
   ·rcases h5 with h5 | ⟨l',hl',h5⟩
    ·exact ⟨l,List.mem_cons_self,h5.symm⟩
    ·exact ⟨l',List.mem_cons_of_mem _ hl',h5⟩
   ·rw [h6,List.countP_cons,if_neg (show ¬ m=s.2.1 by omega)]
    have e2:(m=(l,valT jobs f l,(1:Int)).2.1)=(valT jobs f l=m):=propext ⟨fun h=>h.symm,fun h=>h.symm⟩
    simp only [e2,decide_eq_true_eq];omega
  ·by_cases c2:valT jobs f l=s.2.1
   ·have e:bstU jobs f l s=(s.1,s.2.1,((c + 1:Nat):Int)):=by
     unfold bstU;rw [if_neg (by intro h;rcases h with h|h;omega;exact c1 h),if_pos c2,hc,wr (by omega) (by omega)];rfl
    rw [e]
    obtain ⟨m,h2,h3,h4,h5,h6⟩:=bst_fold jobs f P (s.1,s.2.1,((c + 1:Nat):Int)) (c + 1) rfl (by omega) (by omega)
    have h3':m≤s.2.1:=h3
    refine ⟨m,h2,h3',fun l' hl'=>?_,?_,?_⟩
    ·rcases List.mem_cons.1 hl' with rfl|hl'
     ·omega
     ·exact h4 l' hl'
    ·rcases h5 with h5 | ⟨l',hl',h5⟩
     ·exact .inl h5
     ·exact .inr ⟨l',List.mem_cons_of_mem _ hl',h5⟩
    ·rw [h6,List.countP_cons,c2]
     have e2:(m=(s.1,s.2.1,((c + 1:Nat):Int)).2.1)=(m=s.2.1):=rfl
     simp only [e2,decide_eq_true_eq]
     by_cases q:m=s.2.1
     ·rw [if_pos q,if_pos q,if_pos q.symm];omega
     ·rw [if_neg q,if_neg q,if_neg (fun h=>q h.symm)];omega
   ·have e:bstU jobs f l s=s:=by unfold bstU;rw [if_neg (by intro h;rcases h with h|h;omega;exact c1 h),if_neg c2]
    rw [e]
    obtain ⟨m,h2,h3,h4,h5,h6⟩:=bst_fold jobs f P s c hc h0 (by omega)
    refine ⟨m,h2,h3,fun l' hl'=>?_,?_,?_⟩
    ·rcases List.mem_cons.1 hl' with rfl|hl'
     ·omega
     ·exact h4 l' hl'
    ·rcases h5 with h5 | ⟨l',hl',h5⟩
     ·exact .inl h5
     ·exact .inr ⟨l',List.mem_cons_of_mem _ hl',h5⟩
    ·rw [h6,List.countP_cons]
     rw [decide_eq_false (show ¬ valT jobs f l=m by omega)];simp
theorem sum_const {α:Type} (g:α→Nat) (c:Nat):∀ l:List α,(∀ x ∈ l,g x=c)→(l.map g).sum=l.length * c
 | [],_=>by simp
 | x::l,h=>by
  rw [List.map_cons,List.sum_cons,sum_const g c l (fun y hy=>h y (List.mem_cons_of_mem _ hy)),h x List.mem_cons_self,List.length_cons,Nat.add_mul];omega
theorem perms_len:∀ (n:Nat) (L:List Int),L.length=n→(perms n L).length=facN n
 | 0,L,_=>by simp [perms,facN,risF]
 | n + 1,L,h=>by
  rw [perms,List.length_flatMap,sum_const _ (facN n) L (fun x hx=>by rw [List.length_map];exact perms_len n (L.erase x) (by rw [List.length_erase_of_mem hx];omega)),h,facN_succ]
theorem perms_any (n:Nat):perms n (nums_to n)≠[]:=by
 have:=isPerm_perms (l:=nums_to n) (n:=n) ⟨nums_to_length n,nums_to_nodup n,fun x hx=>mem_nums_to.1 hx⟩
 intro h;rw [h] at this;cases this
/-- how many orders are best, and the least value -/
theorem bst_count {jobs:List J} (hj:JobsOk jobs) (f:Int):∃ m:Int,(bstF jobs f).2.1=m∧(∀ l ∈ perms jobs.length (nums_to jobs.length),m≤valT jobs f l)∧(∃ l ∈ perms jobs.length (nums_to jobs.length),valT jobs f l=m)∧(bstF jobs f).2.2=(((perms jobs.length (nums_to jobs.length)).countP (fun l=>decide (valT jobs f l=m)):Nat):Int):=by
 have hne:=perms_any jobs.length
 have hlen:=perms_len jobs.length (nums_to jobs.length) (nums_to_length _)
 have h8:=facN_le jobs.length hj.1
 unfold bstF
 generalize perms jobs.length (nums_to jobs.length)=P at hne hlen ⊢
 cases P with
 | nil=>exact absurd rfl hne
 | cons l P=>
  rw [List.length_cons] at hlen
  have e:bstU jobs f l ([],0,0)=(l,valT jobs f l,1):=by unfold bstU;rw [if_pos (.inl rfl)]
  rw [List.foldl_cons,e]
  obtain ⟨m,h2,h3,h4,h5,h6⟩:=bst_fold jobs f P (l,valT jobs f l,1) 1 rfl (by omega) (by omega)
  have h3':m≤valT jobs f l:=h3
  refine ⟨m,h2,fun l' hl'=>?_,?_,?_⟩
  ·rcases List.mem_cons.1 hl' with rfl|hl'
   ·exact h3'
   ·exact h4 l' hl'
  ·rcases h5 with h5 | ⟨l',hl',h5⟩
   ·exact ⟨l,List.mem_cons_self,h5.symm⟩
   ·exact ⟨l',List.mem_cons_of_mem _ hl',h5⟩
  ·rw [h6,List.countP_cons]
   have e2:(m=(l,valT jobs f l,(1:Int)).2.1)=(valT jobs f l=m):=propext ⟨fun h=>h.symm,fun h=>h.symm⟩
   simp only [e2,decide_eq_true_eq];omega
theorem count_mono {α:Type} {p q:α→Bool} : ∀ l:List α,(∀ x ∈ l,p x=true→q x=true)→l.countP p≤l.countP q
 | [],_=>by simp
 | x::l,h=>by
  have ih:=count_mono l (fun y hy=>h y (List.mem_cons_of_mem _ hy))
  rw [List.countP_cons,List.countP_cons]
  have hx:=h x List.mem_cons_self
  cases c:p x with
  | false=>simp;omega
  | true=>rw [hx c];simp;exact ih
/-- The number of ruled orders against that of best orders. -/
theorem many_best {jobs:List J} {a:Int} (hr:RuledOk jobs a):(manyF jobs a:Int)≤(bstF jobs a).2.2∧(a=2∨a=3→(manyF jobs a:Int)=(bstF jobs a).2.2):=by
 have hj:=hr.1
 have hp:=gap_pre hj a
 obtain ⟨m,h1,h2,⟨l0,hl0,h3⟩,h4⟩:=bst_count hj a
 have sp:=sortN_perm (gapLt jobs a) jobs.length
 have ss:SortedLt (gapLt jobs a) (sortN (gapLt jobs a) jobs.length):=insAll_sorted hp _ _ (fun y hy=>mem_nums_to.1 hy) (fun y hy=>by cases hy) List.Pairwise.nil
 have hE:tieE jobs a=tieB (gapLt jobs a):=funext fun x=>funext fun y=>tieE_tie jobs a x y
 have many:manyF jobs a=(perms jobs.length (nums_to jobs.length)).countP (srtB (gapLt jobs a)):=by
  unfold manyF
  rw [hE,groupsL_fac hp _ (fun y hy=>mem_nums_to.1 (sp.mem_iff.1 hy)) ss,facT_perm hp sp (fun y hy=>mem_nums_to.1 (sp.mem_iff.1 hy)),count_sorted hp jobs.length (nums_to jobs.length) (nums_to_length _) (fun y hy=>mem_nums_to.1 hy)]
 have best:∀ l ∈ perms jobs.length (nums_to jobs.length),srtB (gapLt jobs a) l=true→valT jobs a l=m:=fun l hl hs=>by
  have hlp:=perms_isPerm hl
  have h5:=sorted_best (V:=valT jobs a) (G:=IsPerm jobs.length) (fun l l' h hl=>perm_isPerm h hl) (fun pre x y suf hg h=>tie_swap hr pre x y suf hg h) l [] l0 ((srt_iff l).1 hs) ((perms_perm _ _ _ (nums_to_length _) hl0).trans (perms_perm _ _ _ (nums_to_length _) hl).symm) (perms_isPerm hl0)
  rw [List.nil_append,List.nil_append] at h5
  have:=h2 l hl
  omega
 rw [many,h4]
 refine ⟨Int.ofNat_le.2 (count_mono _ fun l hl hs=>decide_eq_true (best l hl hs)),fun ha=>?_⟩
 refine congrArg _ (Nat.le_antisymm (count_mono _ fun l hl hs=>decide_eq_true (best l hl hs)) (count_mono _ fun l hl hs=>?_))
 have hv:=of_decide_eq_true hs
 have hlp:=perms_isPerm hl
 refine (srt_iff l).2 (best_sorted (G:=IsPerm jobs.length) (V:=valT jobs a) hp (fun pre x y suf hg h=>tie_gain hr ha pre x y suf hg h) hlp (fun z hz=>hlp.2.2 z hz) (fun l' hl'=>?_))
 have:=h2 l' (isPerm_perms (perm_isPerm hl'.symm hlp))
 omega
theorem impl_CountBest.ev {jobs:List J} (hj:JobsOk jobs) {a:Int} (ha:1≤a∧a≤8):Ev (fun k=>impl_CountBest.f k jobs a) ((bstF jobs a).2.2,true):=by
 unfold impl_CountBest.f
 refine ev_guard' (impl_IsJobs.ev jobs) (fun _=>?_) (fun hn=>absurd hj hn)
 simp only [impl_isObjective.ev,Option.bind_some,decide_eq_true ha,if_true]
 exact ev_bind _ (impl_best.evT jobs a hj) (Ev.now _)

end Go.Proofs.Ytkcfmaiknmfokaa.Pure
-- minified
