/- Proved here: an argument that can be read as data is a value of the print's kinds, and what is known of its parts. Conditions: those that each theorem names. -/
import Derived.Test.YtndcbfifmafcoaaXFnTailsFirstwWords
import Derived.OpenShut
import Derived.Deep.Slices
namespace Go.Proofs.Ytndcbfifmafcoaa.Open
open Go.RowKit Go.Deep Go.Proofs.YtndcbfifmafcoaaW.PrintWords
def OkInt (k:IntKind) (n:Int):Prop:=(Lit.int k n).wf=true
def OkStr (s:ByteArray):Prop:=s.size<=maxLen
def OkSlice {α:Type} (ok:α->Prop) (xs:List α):Prop:=xs.length<=maxLen/\∀ y ∈ xs,ok y
/-- What a type's cells are, when they read as data. -/
def Opens {α:Type} (P:Program) (t:TypeId) (d:Kd α) (ok:α->Prop):Prop:=
 ∀ (H:Type) (enc:TypeId × Value->H) (w:World) (base:Nat) (held:Bool) (fuel:Nat) (cs:List Value) (x:DataW H × List MemPlace),
  DataW.trod enc P w base (fun _=>true) held fuel t cs=some x->∃ a:α,d.K w a cs/\ok a
/-- The same of a struct's fields from one cell on. -/
def OpensF {α:Type} (P:Program) (fs:List Field) (off:Nat) (d:Kd α) (ok:α->Prop):Prop:=
 ∀ (H:Type) (enc:TypeId × Value->H) (w:World) (base:Nat) (held:Bool) (fuel:Nat) (cs:List Value),
  (∀ f ∈ fs,∃ y,DataW.trod enc P w base (fun _=>true) held fuel f.type ((cs.drop f.offset).take (P.cellsOf f.type))=some y)->off + d.sz=cs.length->∃ a:α,d.K w a (cs.drop off)/\ok a
section
variable {P:Program} {t e:TypeId} {α β:Type} {d:Kd α} {d':Kd β} {ok:α->Prop} {ok':β->Prop}
theorem opens_int {k:IntKind} (hu:P.underlying t=some (.int k)):Opens P t (Kd.int k) (OkInt k):=by
 intro H enc w base held fuel cs x h;obtain ⟨n,rfl,_,hw⟩:=DataW.trod_int hu h;exact ⟨n,rfl,hw⟩
theorem opens_bool (hu:P.underlying t=some .bool):Opens P t Kd.bool (fun _=>True):=by
 intro H enc w base held fuel cs x h;obtain ⟨b,rfl,_⟩:=DataW.trod_bool hu h;exact ⟨b,rfl,trivial⟩
theorem opens_string (hu:P.underlying t=some .string):Opens P t Kd.string OkStr:=by
 intro H enc w base held fuel cs x h;obtain ⟨s,rfl,_,hs⟩:=DataW.trod_string hu h;exact ⟨s,rfl,hs⟩
theorem opens_slice (dflt:α) (hu:P.underlying t=some (.slice e)) (hd:Opens P e d ok) (hc:P.cellsOf e=d.sz):Opens P t (Kd.slice e d) (OkSlice ok):=by
 intro H enc w base held fuel cs x h;rcases open_slice hu h with ⟨rfl,_⟩ | ⟨a,len,cap,m,n,D,Pl,rfl,hb,hl,hm,hmm,_,hx⟩
 ·exact ⟨[],⟨none,0,rfl,Nat.le_refl _,rfl,Nat.zero_le _,fun h=>absurd h (by simp)⟩,Nat.zero_le _,fun y hy=>by cases hy⟩
 ·simp only [if_true] at hmm;have each:∀ i,i<len->∃ y:α,ok y/\∃ c:List Value,c.length=d.sz/\d.K w y c/\∀ (j:Nat) (u:Value),c[j]?=some u->w.cell? (a.add (i * d.sz + j))=some u:=by
   intro i hi;obtain ⟨c,hcells,ht⟩:=hx i (by omega);obtain ⟨y,hy,hok⟩:=hd H enc w base held n c _ ht;obtain ⟨_,hcl,hcc⟩:=World.cells?_some hcells;rw [hc] at hcl hcc;refine ⟨y,hok,c,hcl,hy,fun j u hu'=>?_⟩;have hj:j<d.sz:=by
    have:=(List.getElem?_eq_some_iff.1 hu').1;omega
   have:=hcc j hj;rw [hu',Addr.add_add] at this;exact this
  haveI:Inhabited α:=⟨dflt⟩
  obtain ⟨f,hf⟩:=choose_lt each;refine ⟨(List.range len).map f,⟨some a,cap,by simp,by simpa using hl,by simp,?_,fun _=>⟨a,rfl,fun j p hp=>?_⟩⟩,?_,?_⟩
  ·simp only [List.length_map,List.length_range];unfold maxLen at hm;omega
  ·have hj:j<len:=by
    have:=(List.getElem?_eq_some_iff.1 hp).1
    simpa using this
   have hp':f j=p:=by
    have h1:((List.range len).map f)[j]?=some (f j):=by simp [hj]
    rw [h1] at hp;exact Option.some.inj hp
   obtain ⟨_,c,hcl,hK,hcells⟩:=hf j hj;exact ⟨c,hcl,hp' ▸ hK,hcells⟩
  ·simp only [List.length_map,List.length_range];omega
  ·intro y hy;obtain ⟨i,hi,rfl⟩:=List.mem_map.1 hy;exact (hf i (List.mem_range.1 hi)).1
theorem opensF_one {f:Field} {off:Nat} (hd:Opens P f.type d ok) (ho:f.offset=off) (hc:P.cellsOf f.type=d.sz):OpensF P [f] off d ok:=by
 intro H enc w base held fuel cs hf hl;obtain ⟨y,hy⟩:=hf f List.mem_cons_self;rw [hc,ho,List.take_of_length_le (by simp;omega)] at hy;exact hd H enc w base held fuel _ _ hy
theorem opensF_cons {f:Field} {fs:List Field} {off:Nat} (hd:Opens P f.type d ok) (ho:f.offset=off) (hc:P.cellsOf f.type=d.sz) (hr:OpensF P fs (off + d.sz) d' ok') :
  OpensF P (f::fs) off (Kd.pair d d') (fun x=>ok x.1/\ok' x.2):=by
 intro H enc w base held fuel cs hf hl;have hl':off + (d.sz + d'.sz)=cs.length:=hl;obtain ⟨y,hy⟩:=hf f List.mem_cons_self;rw [hc,ho] at hy;obtain ⟨a,ha,hoka⟩:=hd H enc w base held fuel _ _ hy;obtain ⟨b,hb,hokb⟩:=hr H enc w base held fuel cs (fun g hg=>hf g (List.mem_cons_of_mem _ hg)) (by omega);refine ⟨(a,b),⟨_,_,?_,ha,hb⟩,hoka,hokb⟩;rw [<-List.drop_drop,List.take_append_drop]
theorem opens_struct {fs:Array Field} (g:β->α) (g':α->β) (hg:∀ x,g (g' x)=x) (hu:P.underlying t=some (.struct fs)) (hf:OpensF P fs.toList 0 d ok) (hc:P.cellsOf t=d.sz):Opens P t (Kd.iso d g) (fun y=>ok (g y)):=by
 intro H enc w base held fuel cs x h;obtain ⟨xs,n,_,_,hl,hlen,hx⟩:=DataW.trod_struct hu h;obtain ⟨a,ha,hok⟩:=hf H enc w base held n cs (fun f hmem=>by
  obtain ⟨i,hi,rfl⟩:=List.getElem_of_mem hmem;have hi':i<fs.size:=by simpa using hi
  have:=hx i fs[i] (by simp [hi']);have hxi:i<xs.length:=by omega
  refine ⟨xs[i],?_⟩;rw [show fs.toList[i]=fs[i] from by simp,this];simp [hxi]) (by omega)
 refine ⟨g' a,?_,?_⟩
 ·show d.K w (g (g' a)) cs
  rw [hg];simpa using ha
 ·show ok (g (g' a))
  rw [hg];exact hok
theorem opens_array2 (hu:P.underlying t=some (.array 2 e)) (g:β->α × α) (g':α × α->β) (hg:∀ x,g (g' x)=x) (hd:Opens P e d ok) (hc:P.cellsOf e=d.sz) (hc2:P.cellsOf t=d.sz + d.sz) :
  Opens P t (Kd.iso (Kd.pair d d) g) (fun y=>ok (g y).1/\ok (g y).2):=by
 intro H enc w base held fuel cs x h;obtain ⟨xs,n,_,_,hl,hlen,hx⟩:=DataW.trod_array hu h;have h0:=hx 0 (by omega);have h1:=hx 1 (by omega);rw [hc] at h0 h1;rw [hc2] at hl
 match xs,hlen with
 | [y0,y1],_=>
  simp only [Nat.zero_mul,List.drop_zero,Nat.one_mul] at h0 h1;obtain ⟨a,ha,hoka⟩:=hd H enc w base held n _ y0 h0;obtain ⟨b,hb,hokb⟩:=hd H enc w base held n _ y1 h1;refine ⟨g' (a,b),?_,?_⟩
  ·show (Kd.pair d d).K w (g (g' (a,b))) cs
   rw [hg];refine ⟨_,_,?_,ha,hb⟩;have e1:List.take d.sz (List.drop d.sz cs)=List.drop d.sz cs:=List.take_of_length_le (by simp;omega);rw [e1,List.take_append_drop]
  ·show ok (g (g' (a,b))).1/\ok (g (g' (a,b))).2
   rw [hg];exact ⟨hoka,hokb⟩
/-- Of an argument. -/
theorem Opens.arg (ho:Opens P t d ok) {H:Type} {enc:TypeId × Value->H} {w:World} {base:Nat} {held:Bool} {v:Value} {x:DataW H} {ps:List MemPlace} (h:DataW.Trod enc P w base (fun _=>true) held t v x ps):∃ a:α,d.K w a v.cells.toList/\ok a:=by
 obtain ⟨fuel,hf⟩:=h;exact ho H enc w base held fuel _ _ hf
end
