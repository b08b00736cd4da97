import Derived.Test.YtndcbfifmafcoaaProg
import Derived.Laws.CopyOwn
import Derived.RangeFuncBox
import Derived.Test.YtndcbfifmafcoaaXFnTailsFirstwEqStruct
import Derived.Test.YtndcbfifmafcoaaXFnTailsFirstwRepsOne
import Derived.Test.YtndcbfifmafcoaaXFnTailsFirstwInv
import Derived.Test.YtndcbfifmafcoaaXFnTailsFirstwGuard
import Derived.Test.YtndcbfifmafcoaaXFnTailsFirstwMore
namespace Go.Proofs.Ytndcbfifmafcoaa.XFnTailsFirst
open Go.RowKit Go.Proofs.YtndcbfifmafcoaaW.PrintWords Go.Proofs.YtndcbfifmafcoaaW.PrintLast Go.Proofs.YtndcbfifmafcoaaW.PrintMore
set_option linter.unusedVariables false
set_option linter.unusedSimpArgs false
theorem ak_ {p:Prop} (h:p):Aside0 p:=Aside0.mk h
theorem oz_ {p:Prop} [Decidable p] (h:decide p=true:=by first|(with_reducible assumption)|assumption):p:=of_decide_eq_true h
theorem od_ {p:Prop} [Decidable p] (h:decide p=true):p:=of_decide_eq_true h
theorem oi_ {α:Type} {a b:α} (h:some a=some b):a=b:=Option.some.inj h
theorem zq_ {w w':World} {a:Addr} {v:Value} (hB:Aside0 (Below w.heap.size w w')) (h:w.cell? a=some v):w'.cell? a=some v:=(hB.out.cell (World.block_lt_of_cell? w _ h)).trans h
def errW:Option Int->Value
 | none=>.nilIface
 | some c=>.iface 0 (.int .i64 c)
theorem errW_none:errW none=.nilIface:=rfl
theorem errW_some (c:Int):errW (some c)=.iface 0 (.int .i64 c):=rfl
theorem info3:(Try.prog.info? 3).map (fun i=>(i.zero,i.size,i.bytes))=some (some (.int .i64 0),1,8):=by kernel_rfl
theorem info4:(Try.prog.info? 4).map (fun i=>(i.zero,i.size,i.bytes))=some (some (.bool false),1,1):=by kernel_rfl
theorem info5:(Try.prog.info? 5).map (fun i=>(i.zero,i.size,i.bytes))=some (some (.int .u8 0),1,1):=by kernel_rfl
theorem info34:(Try.prog.info? 34).map (fun i=>(i.zero,i.size,i.bytes))=some (some (.slice none 0 0),1,24):=by kernel_rfl
theorem info42:(Try.prog.info? 42).map (fun i=>(i.zero,i.size,i.bytes))=some (some (.agg #[(.int .i64 0),(.int .i64 0)]),2,16):=by kernel_rfl
theorem info44:(Try.prog.info? 44).map (fun i=>(i.zero,i.size,i.bytes))=some (some (.agg #[(.int .i64 0),(.int .i64 0),(.int .i64 0),(.int .i64 0)]),4,32):=by kernel_rfl
theorem info73:(Try.prog.info? 73).map (fun i=>(i.zero,i.size,i.bytes))=some (some (.agg #[(.int .i64 0),(.int .i64 0),(.int .i64 0)]),3,24):=by kernel_rfl
theorem info80:(Try.prog.info? 80).map (fun i=>(i.zero,i.size,i.bytes))=some (some (.slice none 0 0),1,24):=by kernel_rfl
-- the values' own types
structure S44 where
 f0:Int
 f1:Int
 f2:Int
 f3:Int
def z44:S44:=⟨(0:Int),(0:Int),(0:Int),(0:Int)⟩
def k44:Kd S44:=Kd.iso (Kd.pair (Kd.int .i64) (Kd.pair (Kd.int .i64) (Kd.pair (Kd.int .i64) (Kd.int .i64)))) (fun x:S44=>(x.f0,x.f1,x.f2,x.f3))
theorem k44_heap:Kd.Heap k44:=Kd.heap_iso _ (Kd.heap_pair (Kd.heap_int .i64) (Kd.heap_pair (Kd.heap_int .i64) (Kd.heap_pair (Kd.heap_int .i64) (Kd.heap_int .i64))))
theorem k44_open {w:World} {x:S44} {cs:List Value} (h:k44.K w x cs):cs=[.int .i64 x.f0,.int .i64 x.f1,.int .i64 x.f2,.int .i64 x.f3]:=by
 obtain ⟨_,_,rfl,rfl,⟨_,_,rfl,rfl,⟨_,_,rfl,rfl,rfl⟩⟩⟩:=h
 exact rfl
theorem k44_openM {w:World} {base:Nat} {ok:Nat->Prop} {x:S44} {cs:List Value} (h:k44.M w base ok x cs):cs=[.int .i64 x.f0,.int .i64 x.f1,.int .i64 x.f2,.int .i64 x.f3]:=by
 obtain ⟨_,_,rfl,rfl,⟨_,_,rfl,rfl,⟨_,_,rfl,rfl,rfl⟩⟩⟩:=h
 exact rfl
theorem k44_mk (w:World) (x:S44)  : k44.K w x [.int .i64 x.f0,.int .i64 x.f1,.int .i64 x.f2,.int .i64 x.f3]:=⟨[.int .i64 x.f0],[.int .i64 x.f1,.int .i64 x.f2,.int .i64 x.f3],rfl,rfl,⟨[.int .i64 x.f1],[.int .i64 x.f2,.int .i64 x.f3],rfl,rfl,⟨[.int .i64 x.f2],[.int .i64 x.f3],rfl,rfl,rfl⟩⟩⟩
theorem k44_mkM (w:World) (base:Nat) (ok:Nat->Prop) (x:S44)  : k44.M w base ok x [.int .i64 x.f0,.int .i64 x.f1,.int .i64 x.f2,.int .i64 x.f3]:=⟨[.int .i64 x.f0],[.int .i64 x.f1,.int .i64 x.f2,.int .i64 x.f3],rfl,rfl,⟨[.int .i64 x.f1],[.int .i64 x.f2,.int .i64 x.f3],rfl,rfl,⟨[.int .i64 x.f2],[.int .i64 x.f3],rfl,rfl,rfl⟩⟩⟩
theorem k44_mkF (W:World) (ok:Nat->Prop) (x:S44):Kd.FK k44 W ok x [.int .i64 x.f0,.int .i64 x.f1,.int .i64 x.f2,.int .i64 x.f3]:=fun W2 _=>k44_mk W2 x
def rd_T44 (xs:List S44) (i:Int):S44:=xs.getD i.toNat z44
theorem at_T44 {w:World} {A:Option Addr} {n:Nat} {xs:List S44} (h:Kd.C k44 w A n xs) (i:Int) (h0:0<=i) (h1:i<n):∃ ad,A=some ad/\w.cell? (ad.add (i.toNat * 4))=some (.int .i64 (rd_T44 xs i).f0)/\w.cell? ⟨(ad.add (i.toNat * 4)).block,(ad.add (i.toNat * 4)).off + 1,none⟩=some (.int .i64 (rd_T44 xs i).f1)/\w.cell? ⟨(ad.add (i.toNat * 4)).block,(ad.add (i.toNat * 4)).off + 2,none⟩=some (.int .i64 (rd_T44 xs i).f2)/\w.cell? ⟨(ad.add (i.toNat * 4)).block,(ad.add (i.toNat * 4)).off + 3,none⟩=some (.int .i64 (rd_T44 xs i).f3):=by
 obtain ⟨ad,c,e,_,hK,hc0⟩:=Kd.C_get h z44 i h0 h1
 have hc:∀ j u,c[j]?=some u->w.cell? (ad.add (i.toNat * 4 + j))=some u:=hc0
 obtain rfl:=k44_open hK
 exact ⟨ad,e,hc 0 _ rfl,by rw [<-add_field _ _ 1 (by omega)];exact hc 1 _ rfl,by rw [<-add_field _ _ 2 (by omega)];exact hc 2 _ rfl,by rw [<-add_field _ _ 3 (by omega)];exact hc 3 _ rfl⟩
structure S42 where
 f0:Int
 f1:Int
def z42:S42:=⟨(0:Int),(0:Int)⟩
def k42:Kd S42:=Kd.iso (Kd.pair (Kd.int .i64) (Kd.int .i64)) (fun x:S42=>(x.f0,x.f1))
theorem k42_heap:Kd.Heap k42:=Kd.heap_iso _ (Kd.heap_pair (Kd.heap_int .i64) (Kd.heap_int .i64))
theorem k42_open {w:World} {x:S42} {cs:List Value} (h:k42.K w x cs):cs=[.int .i64 x.f0,.int .i64 x.f1]:=by
 obtain ⟨_,_,rfl,rfl,rfl⟩:=h
 exact rfl
theorem k42_openM {w:World} {base:Nat} {ok:Nat->Prop} {x:S42} {cs:List Value} (h:k42.M w base ok x cs):cs=[.int .i64 x.f0,.int .i64 x.f1]:=by
 obtain ⟨_,_,rfl,rfl,rfl⟩:=h
 exact rfl
theorem k42_mk (w:World) (x:S42)  : k42.K w x [.int .i64 x.f0,.int .i64 x.f1]:=⟨[.int .i64 x.f0],[.int .i64 x.f1],rfl,rfl,rfl⟩
theorem k42_mkM (w:World) (base:Nat) (ok:Nat->Prop) (x:S42)  : k42.M w base ok x [.int .i64 x.f0,.int .i64 x.f1]:=⟨[.int .i64 x.f0],[.int .i64 x.f1],rfl,rfl,rfl⟩
theorem k42_mkF (W:World) (ok:Nat->Prop) (x:S42):Kd.FK k42 W ok x [.int .i64 x.f0,.int .i64 x.f1]:=fun W2 _=>k42_mk W2 x
def rd_T42 (xs:List S42) (i:Int):S42:=xs.getD i.toNat z42
theorem at_T42 {w:World} {A:Option Addr} {n:Nat} {xs:List S42} (h:Kd.C k42 w A n xs) (i:Int) (h0:0<=i) (h1:i<n):∃ ad,A=some ad/\w.cell? (ad.add (i.toNat * 2))=some (.int .i64 (rd_T42 xs i).f0)/\w.cell? ⟨(ad.add (i.toNat * 2)).block,(ad.add (i.toNat * 2)).off + 1,none⟩=some (.int .i64 (rd_T42 xs i).f1):=by
 obtain ⟨ad,c,e,_,hK,hc0⟩:=Kd.C_get h z42 i h0 h1
 have hc:∀ j u,c[j]?=some u->w.cell? (ad.add (i.toNat * 2 + j))=some u:=hc0
 obtain rfl:=k42_open hK
 exact ⟨ad,e,hc 0 _ rfl,by rw [<-add_field _ _ 1 (by omega)];exact hc 1 _ rfl⟩
def rd_L5 (xs:List (List Bool)) (i:Int):(List Bool):=xs.getD i.toNat ([]:List Bool)
theorem at_L5 {w:World} {A:Option Addr} {n:Nat} {xs:List (List Bool)} (h:Kd.C (Kd.slice 4 Kd.bool) w A n xs) (i:Int) (h0:0<=i) (h1:i<n):∃ ad A0 c0,A=some ad/\w.cell? (ad.add i.toNat)=some (.slice A0 (rd_L5 xs i).length c0)/\(rd_L5 xs i).length<=c0/\Kd.bool.C w A0 (rd_L5 xs i).length (rd_L5 xs i):=by
 obtain ⟨ad,c,e,_,hK,hc0⟩:=Kd.C_get h ([]:List Bool) i h0 h1
 have hc:∀ j u,c[j]?=some u->w.cell? (ad.add (i.toNat * 1 + j))=some u:=hc0
 obtain ⟨A0,c0,rfl,l0,g0⟩:=hK
 exact ⟨ad,A0,c0,e,by have hq:=hc 0 _ rfl;rwa [Nat.mul_one,Nat.add_zero] at hq,l0,g0⟩
structure S73 where
 f0:Int
 f1:Int
 f2:Int
def z73:S73:=⟨(0:Int),(0:Int),(0:Int)⟩
def k73:Kd S73:=Kd.iso (Kd.pair (Kd.int .i64) (Kd.pair (Kd.int .i64) (Kd.int .i64))) (fun x:S73=>(x.f0,x.f1,x.f2))
theorem k73_heap:Kd.Heap k73:=Kd.heap_iso _ (Kd.heap_pair (Kd.heap_int .i64) (Kd.heap_pair (Kd.heap_int .i64) (Kd.heap_int .i64)))
theorem k73_open {w:World} {x:S73} {cs:List Value} (h:k73.K w x cs):cs=[.int .i64 x.f0,.int .i64 x.f1,.int .i64 x.f2]:=by
 obtain ⟨_,_,rfl,rfl,⟨_,_,rfl,rfl,rfl⟩⟩:=h
 exact rfl
theorem k73_openM {w:World} {base:Nat} {ok:Nat->Prop} {x:S73} {cs:List Value} (h:k73.M w base ok x cs):cs=[.int .i64 x.f0,.int .i64 x.f1,.int .i64 x.f2]:=by
 obtain ⟨_,_,rfl,rfl,⟨_,_,rfl,rfl,rfl⟩⟩:=h
 exact rfl
theorem k73_mk (w:World) (x:S73)  : k73.K w x [.int .i64 x.f0,.int .i64 x.f1,.int .i64 x.f2]:=⟨[.int .i64 x.f0],[.int .i64 x.f1,.int .i64 x.f2],rfl,rfl,⟨[.int .i64 x.f1],[.int .i64 x.f2],rfl,rfl,rfl⟩⟩
theorem k73_mkM (w:World) (base:Nat) (ok:Nat->Prop) (x:S73)  : k73.M w base ok x [.int .i64 x.f0,.int .i64 x.f1,.int .i64 x.f2]:=⟨[.int .i64 x.f0],[.int .i64 x.f1,.int .i64 x.f2],rfl,rfl,⟨[.int .i64 x.f1],[.int .i64 x.f2],rfl,rfl,rfl⟩⟩
theorem k73_mkF (W:World) (ok:Nat->Prop) (x:S73):Kd.FK k73 W ok x [.int .i64 x.f0,.int .i64 x.f1,.int .i64 x.f2]:=fun W2 _=>k73_mk W2 x
def rd_T73 (xs:List S73) (i:Int):S73:=xs.getD i.toNat z73
theorem at_T73 {w:World} {A:Option Addr} {n:Nat} {xs:List S73} (h:Kd.C k73 w A n xs) (i:Int) (h0:0<=i) (h1:i<n):∃ ad,A=some ad/\w.cell? (ad.add (i.toNat * 3))=some (.int .i64 (rd_T73 xs i).f0)/\w.cell? ⟨(ad.add (i.toNat * 3)).block,(ad.add (i.toNat * 3)).off + 1,none⟩=some (.int .i64 (rd_T73 xs i).f1)/\w.cell? ⟨(ad.add (i.toNat * 3)).block,(ad.add (i.toNat * 3)).off + 2,none⟩=some (.int .i64 (rd_T73 xs i).f2):=by
 obtain ⟨ad,c,e,_,hK,hc0⟩:=Kd.C_get h z73 i h0 h1
 have hc:∀ j u,c[j]?=some u->w.cell? (ad.add (i.toNat * 3 + j))=some u:=hc0
 obtain rfl:=k73_open hK
 exact ⟨ad,e,hc 0 _ rfl,by rw [<-add_field _ _ 1 (by omega)];exact hc 1 _ rfl,by rw [<-add_field _ _ 2 (by omega)];exact hc 2 _ rfl⟩
def rd_L7 (xs:List (List Int)) (i:Int):(List Int):=xs.getD i.toNat ([]:List Int)
theorem at_L7 {w:World} {A:Option Addr} {n:Nat} {xs:List (List Int)} (h:Kd.C (Kd.slice 3 (Kd.int .i64)) w A n xs) (i:Int) (h0:0<=i) (h1:i<n):∃ ad A0 c0,A=some ad/\w.cell? (ad.add i.toNat)=some (.slice A0 (rd_L7 xs i).length c0)/\(rd_L7 xs i).length<=c0/\(Kd.int .i64).C w A0 (rd_L7 xs i).length (rd_L7 xs i):=by
 obtain ⟨ad,c,e,_,hK,hc0⟩:=Kd.C_get h ([]:List Int) i h0 h1
 have hc:∀ j u,c[j]?=some u->w.cell? (ad.add (i.toNat * 1 + j))=some u:=hc0
 obtain ⟨A0,c0,rfl,l0,g0⟩:=hK
 exact ⟨ad,A0,c0,e,by have hq:=hc 0 _ rfl;rwa [Nat.mul_one,Nat.add_zero] at hq,l0,g0⟩
theorem z0_ {α:Type _} {a:List α} {i:Nat} {b:α} : a.toArray.setIfInBounds i b=(a.set i b).toArray:=by simp
theorem z1_ {α:Type _} {a b:α} {l:List α} : (a::l).set 0 b=b::l:=rfl
theorem z2_ {α:Type _} {a b:α} {n:Nat} {l:List α} : (a::l).set (n + 1) b=a::l.set n b:=rfl
theorem id3_ {α β γ:Sort _} {P:α->β->γ->Prop} (a:α) (b:β) (c:γ) (h:P a b c):P a b c:=h
abbrev ba0_:Array Bool:=#[false,false,false,false,false,false,false,false,false,false,false,false,false,false,false,false,false,false,false,false,false,false,false,false,false,false,false,false,false,false,false,false,false,false,false,false,false,false,false,false,false,false,false,false,false,false,false,false,false,false]
abbrev ba8_:Array Bool:=#[true,true,true,true,true,true,true,true,false,false,false,false,false,false,false,false,false,false,false,false,false,false,false,false,false,false,false,false,false,false,false,false,false,false,false,false,false,false,false,false,false,false,false,false,false,false,false,false,false,false]
abbrev ba18_:Array Bool:=#[true,true,true,true,true,true,true,true,true,true,true,true,true,true,true,true,true,true,false,false,false,false,false,false,false,false,false,false,false,false,false,false,false,false,false,false,false,false,false,false,false,false,false,false,false,false,false,false,false,false]
abbrev ba47_:Array Bool:=#[true,true,true,true,true,true,true,true,true,true,true,true,true,true,true,true,true,true,true,true,true,true,true,true,true,true,true,true,true,true,true,true,true,true,true,true,true,true,true,true,true,true,true,true,true,true,true,false,false,false]
theorem idxA_42_0 (a0 a1:Int) (w:World):(Instr.index 42 (.agg #[.int .i64 a0,.int .i64 a1]) (.int .i64 0)).run Try.prog w=.ok (.int .i64 a0) w:=by kernel_rfl
theorem idxA_42_1 (a0 a1:Int) (w:World):(Instr.index 42 (.agg #[.int .i64 a0,.int .i64 a1]) (.int .i64 1)).run Try.prog w=.ok (.int .i64 a1) w:=by kernel_rfl
theorem fldS_51_0 (v0 v1 v2:Value) (w:World):(Instr.field 51 (.agg #[v0,v1,v2]) 0).run Try.prog w=.ok v0 w:=by kernel_rfl
theorem fldS_51_1 (v0 v1 v2:Value) (w:World):(Instr.field 51 (.agg #[v0,v1,v2]) 1).run Try.prog w=.ok v1 w:=by kernel_rfl
theorem fldS_51_2 (v0 v1 v2:Value) (w:World):(Instr.field 51 (.agg #[v0,v1,v2]) 2).run Try.prog w=.ok v2 w:=by kernel_rfl
theorem zb {b:Nat} {w w':World} (h:Below b w w':=by repeat (first|(with_reducible first|exact HB.out|apply below_alloc|apply pw_below_drewN|apply below_drew1)|exact HB.out)):Below b w w':=h
theorem za {p:Prop} (h:p:=by first|(with_reducible assumption)|assumption):p:=h
theorem ab_ {i:Int} {n:Nat} {C:Prop} (f:0<=i->i<n->C) (h0:decide (0<=i)=true:=by first|(with_reducible assumption)|assumption) (h1:decide (i<(n:Int))=true:=by first|(with_reducible assumption)|assumption):(0<=i)=True/\(i<(n:Int))=True/\C:=⟨eq_true (of_decide_eq_true h0),eq_true (of_decide_eq_true h1),f (of_decide_eq_true h0) (of_decide_eq_true h1)⟩
theorem cf_ {w:World} {p a:Addr} {u v:Value} (hn:a.block≠p.block) (h:w.cell? a=some v):(w.setCell p u).cell? a=some v:=(cell_far hn u).trans h
theorem bxe_ {P:Program} {ops:Array Oper} {Q:Exit->Act->World->Prop} {o:Oper} {rest:List Oper} {a:Act} {W:World} {N:Tmp} {cs:Array Value} {t:TypeId} (h:∀ g,g=W.heap.size->∀ w1,w1.heap[g]?=some (.cells cs t (0,0))->Below W.heap.size W w1->wpList P ops Q rest (a.put o.dst (.pointer (some ⟨g,0,none⟩))) w1) (hg:o.guard=none:=by rfl) (hd:o.dst=some N:=by rfl) (hr:(execOp a.eval o).run P W=.ok (.value (.pointer (some ⟨W.heap.size,0,none⟩))) (W.alloc (.cells cs t (0,0))):=by (go_simp;done)):wpList P ops Q (o::rest) a W:=box_event hg hd hr h
theorem rl_ {P:Program} {ops:Array Oper} {Q:Exit->Act->World->Prop} {o:Oper} {rest:List Oper} {a:Act} {W:World} {N:Tmp} {α:Type} (d:Kd α) (e:Nat) {xs:List α} {inner:List Value} (hp:Reps (d.M W W.heap.size (fun _=>True)) d.sz xs inner) (h:∀ v1 w1,d.R e w1 W.heap.size (fun _=>True) v1 xs->Below W.heap.size W w1->W.grownBy w1 none->(∃ b,v1.ownBlock=some b/\W.heap.size<=b)->wpList P ops Q rest (a.put o.dst v1) w1) (hg:o.guard=none:=by rfl) (hd:o.dst=some N:=by rfl) (hr:(execOp a.eval o).run P W=.ok (.value (.slice (some ⟨W.heap.size,0,none⟩) xs.length xs.length)) (W.alloc (.cells inner.toArray e)):=by (go_simp;done)) (hm:xs.length<=9223372036854775807:=by simp):wpList P ops Q (o::rest) a W:=Kd.R_lit d W.heap.size e hg hd hr hp (fun _ hk=>hk) trivial (Below.refl _ _) (Nat.le_refl _) hm h
theorem gw_ (w:World) {g:Nat} {W:World} (hg:g=W.heap.size) (h:w.heap.size<=W.heap.size:=by exact (below_size zb)):Aside0 (w.heap.size<=g):=⟨by rw [hg];exact h⟩
theorem r1_ {α:Type} {d:Kd α} {e b:Nat} {w:World} {ok:Nat->Prop} {A:Option Addr} {n c:Nat} {xs:List α} (h:Aside0 (d.R e w b ok (.slice A n c) xs)):n<=c:=(Kd.R_reads' h.out).2.1
theorem r2_ {α:Type} {d:Kd α} {e b:Nat} {w:World} {ok:Nat->Prop} {A:Option Addr} {n c:Nat} {xs:List α} (h:Aside0 (d.R e w b ok (.slice A n c) xs)):d.C w A xs.length xs:=(Kd.R_reads' h.out).2.2
theorem zo {p:Prop} (h:p:=by first|rfl|(simp;done)|(simp [*];done)):p:=h
theorem zl {p:Prop} (h:p:=by (try simp only [List.map_toArray,List.map_cons,List.map_nil]);first|done|rfl|(simp only [List.length_drop,List.length_take];rfl)):p:=h
theorem zR {α:Type} {d:Kd α} {e b:Nat} {w w':World} {ok:Nat->Prop} {v:Value} {xs:List α} (h:d.R e w b ok v xs) (hb:Below w.heap.size w w':=by repeat (first|(with_reducible exact Below.refl _ _)|(with_reducible apply below_alloc)|(with_reducible apply pw_below_drewN)|(with_reducible apply below_drew1))):d.R e w' b ok v xs:=Kd.R_below h hb
theorem zS {α:Type} {d:Kd α} {e b:Nat} {w w':World} {ok:Nat->Prop} {v:Value} {xs:List α} (h:Kd.S d e w b ok v xs) (hb:Below w.heap.size w w':=by repeat (first|(with_reducible exact Below.refl _ _)|(with_reducible apply below_alloc)|(with_reducible apply pw_below_drewN)|(with_reducible apply below_drew1))):Kd.S d e w' b ok v xs:=Kd.S_below h hb
theorem zC {α:Type} {d:Kd α} {A:Option Addr} {n:Nat} {w w':World} {xs:List α} (h:d.C w A n xs) (hb:Below w.heap.size w w':=by repeat (first|(with_reducible exact Below.refl _ _)|(with_reducible apply below_alloc)|(with_reducible apply pw_below_drewN)|(with_reducible apply below_drew1))):d.C w' A n xs:=Kd.C_below h hb
theorem zz0 {p:Prop} (h:p:=by repeat (first|(with_reducible first|exact HK.out|apply KeepBut.set_|apply keep_drewN|apply keep_drew|apply keep_alloc)|exact HK.out)):p:=h
theorem zz1 {p:Prop} (h:p:=by repeat (first|(with_reducible first|exact HI0.out|apply IsS51.alloc|apply IsS51.drewN|apply IsS51.drew|apply IsS51.set_1|apply IsS51.set_2)|exact HI0.out)):p:=h
theorem zz2 {p:Prop} (h:p:=by repeat (first|(with_reducible first|exact HB.out|apply below_alloc|apply pw_below_drewN|apply below_drew1|refine below_set ?_ (IsS51.ge HI0.out))|exact HB.out)):p:=h
theorem zz3 {p:Prop} (h:p:=by first|rfl|(simp [errW_none,errW_some] <;> rfl)|(simp [*,errW_none,errW_some] <;> rfl)):p:=h
theorem zz4 {p:Prop} (h:p:=by repeat (first|exact Drawn0.refl _|apply Drawn0.step)):p:=h
theorem zz5 {p:Prop} (h:p:=by have:=HK1.out;have:=HK2.out;omega):p:=h
theorem zz6 {p:Prop} (h:p:=by repeat (first|(with_reducible first|exact HK.out|apply Kept.alloc|apply Kept.drewN|apply Kept.drew)|exact HK.out)):p:=h
theorem zz7 {p:Prop} (h:p:=by first|rfl|(simp;done)|(simp [*];done)):p:=h
theorem zz8 {p:Prop} (h:p:=by repeat (first|(with_reducible first|exact HB.out|apply below_alloc|apply pw_below_drewN|apply below_drew1|refine below_set ?_ (IsS51.ge HI317.out))|exact HB.out)):p:=h
theorem zz9 {p:Prop} (h:p:=by (with_reducible repeat (first|refine blk_drewN ?_ _|refine blk_drew ?_|refine blk_alloc ?_ _));exact BK135.out):p:=h
theorem zz10 {p:Prop} (h:p:=by repeat (first|exact Below.refl _ _|apply below_drew1|apply pw_below_drewN)):p:=h
theorem zz11 {p:Prop} (h:p:=by repeat (first|(with_reducible first|exact HK.out|apply KeepBut.set_|apply keep_drewN|apply keep_drew|apply keep_alloc|refine keep_far ?_ GW115.out _)|exact HK.out)):p:=h
theorem zz12 {p:Prop} (h:p:=by repeat (first|(with_reducible first|exact HK.out|apply KeepBut.set_|apply keep_drewN|apply keep_drew|apply keep_alloc|refine keep_far ?_ GW135.out _|refine keep_far ?_ GW136.out _)|exact HK.out)):p:=h
theorem zz13 {p:Prop} (h:p:=by repeat (first|(with_reducible first|exact HI317.out|apply IsS51.alloc|apply IsS51.drewN|apply IsS51.drew|apply IsS51.set_1|apply IsS51.set_2)|exact HI317.out)):p:=h
theorem zz14 {p:Prop} (h:p:=by repeat (first|exact HB.out|apply below_alloc|apply pw_below_drewN|apply below_drew1)):p:=h
theorem zz15 {p:Prop} (h:p:=by repeat (first|(with_reducible first|exact HB.out|apply below_alloc|apply pw_below_drewN|apply below_drew1|refine below_set ?_ (IsS51.ge HI651.out))|exact HB.out)):p:=h
theorem zz16 {p:Prop} (h:p:=by (with_reducible repeat (first|refine blk_drewN ?_ _|refine blk_drew ?_|refine blk_alloc ?_ _));exact BK115.out):p:=h
theorem zz17 {p:Prop} (h:p:=by repeat (first|(with_reducible first|exact HI0.out|apply IsS51.alloc|apply IsS51.drewN|apply IsS51.drew|apply IsS51.set_1|apply IsS51.set_2|refine IsS51.far ?_ NB0_135.out _|refine IsS51.far ?_ NB0_136.out _)|exact HI0.out)):p:=h
theorem zz18 {p:Prop} (h:p:=by repeat (first|(with_reducible first|exact HB.out|apply below_alloc|apply pw_below_drewN|apply below_drew1|refine below_set ?_ (IsS51.ge HI0.out)|refine below_set ?_ GE135.out|refine below_set ?_ GE136.out)|exact HB.out)):p:=h
theorem zz19 {p:Prop} (h:p:=by first|omega|exact Nat.le_refl _):p:=h
theorem zz20 {p:Prop} (h:p:=by (with_reducible repeat (first|refine blk_drewN ?_ _|refine blk_drew ?_|refine blk_alloc ?_ _));exact BK845.out):p:=h
theorem zz21 {p:Prop} (h:p:=by repeat (first|(with_reducible first|exact HI0.out|apply IsS51.alloc|apply IsS51.drewN|apply IsS51.drew|apply IsS51.set_1|apply IsS51.set_2|refine IsS51.far ?_ NB0_115.out _)|exact HI0.out)):p:=h
theorem zz22 {p:Prop} (h:p:=by repeat (first|(with_reducible first|exact HB.out|apply below_alloc|apply pw_below_drewN|apply below_drew1|refine below_set ?_ (IsS51.ge HI0.out)|refine below_set ?_ GE115.out)|exact HB.out)):p:=h
theorem zz23 {p:Prop} (h:p:=by repeat (first|(with_reducible first|exact HK.out|apply KeepBut.set_|apply keep_drewN|apply keep_drew|apply keep_alloc|refine keep_far ?_ GW135.out _)|exact HK.out)):p:=h
theorem zz24 {p:Prop} (h:p:=by (with_reducible repeat (first|refine blk_drewN ?_ _|refine blk_drew ?_|refine blk_alloc ?_ _));exact BK136.out):p:=h
theorem zz25 {p:Prop} (h:p:=by first|(rw [add_block];exact hn612_0)|(show (Addr.add _ _).block≠_;rw [add_block];exact hn612_0)|exact hn612_0):p:=h
theorem zz26 {p:Prop} (h:p:=by first|(rw [add_block];exact hn612_1)|(show (Addr.add _ _).block≠_;rw [add_block];exact hn612_1)|exact hn612_1):p:=h
theorem zz27 {p:Prop} (h:p:=by first|(rw [add_block];exact hn612_2)|(show (Addr.add _ _).block≠_;rw [add_block];exact hn612_2)|exact hn612_2):p:=h
theorem zz28 {p:Prop} (h:p:=by repeat (first|(with_reducible first|exact HB.out|apply below_alloc|apply pw_below_drewN|apply below_drew1|refine below_set ?_ GE701.out)|exact HB.out)):p:=h
theorem zz29 {p:Prop} (h:p:=by first|(rw [add_block];exact hn848_0)|(show (Addr.add _ _).block≠_;rw [add_block];exact hn848_0)|exact hn848_0):p:=h
theorem zz30 {p:Prop} (h:p:=by first|(rw [add_block];exact hn848_1)|(show (Addr.add _ _).block≠_;rw [add_block];exact hn848_1)|exact hn848_1):p:=h
theorem zz31 {p:Prop} (h:p:=by first|(rw [add_block];exact hn848_2)|(show (Addr.add _ _).block≠_;rw [add_block];exact hn848_2)|exact hn848_2):p:=h
theorem zz32 {p:Prop} (h:p:=by repeat (first|(with_reducible first|exact HB.out|apply below_alloc|apply pw_below_drewN|apply below_drew1|refine below_set ?_ GE845.out)|exact HB.out)):p:=h
theorem zz33 {p:Prop} (h:p:=by have:=HK1.out;have:=HK2.out;have:=HK3.out;omega):p:=h
theorem zz34 {p:Prop} (h:p:=by repeat (first|(with_reducible first|exact HI651.out|apply IsS51.alloc|apply IsS51.drewN|apply IsS51.drew|apply IsS51.set_1|apply IsS51.set_2)|exact HI651.out)):p:=h
theorem zz35 {p:Prop} (h:p:=by (with_reducible repeat (first|refine blk_drewN ?_ _|refine blk_drew ?_|refine blk_alloc ?_ _));exact BK450.out):p:=h
theorem zz36 {p:Prop} (h:p:=by repeat (first|(with_reducible first|exact HB.out|apply below_alloc|apply pw_below_drewN|apply below_drew1|refine below_set ?_ GE450.out)|exact HB.out)):p:=h
theorem zz37 {p:Prop} (h:p:=by have:=World.block_lt_of_cell? _ _ hx612_0;first|rwa [add_block] at this|exact this):p:=h
theorem zz38 {p:Prop} (h:p:=by (with_reducible repeat (first|refine blk_drewN ?_ _|refine blk_drew ?_|refine blk_alloc ?_ _));exact BK701.out):p:=h
theorem zz39 {p:Prop} (h:p:=by have:=World.block_lt_of_cell? _ _ hx848_0;first|rwa [add_block] at this|exact this):p:=h
theorem zz40 {p:Prop} (h:p:=by repeat (first|(with_reducible first|exact HB.out|apply below_alloc|apply pw_below_drewN|apply below_drew1|refine below_set ?_ GE383.out)|exact HB.out)):p:=h
theorem zz41 {p:Prop} (h:p:=by have:=HK1.out;have:=HK2.out;have:=HK3.out;have:=HK4.out;omega):p:=h
theorem zz42 {p:Prop} (h:p:=by have:=HK1.out;have:=HK2.out;have:=HK3.out;have:=HK4.out;have:=HK5.out;omega):p:=h
theorem zz43 {p:Prop} (h:p:=by have:=HK1.out;first|omega|exact Nat.le_refl _):p:=h
theorem zz44 {p:Prop} (h:p:=by repeat (first|(with_reducible first|exact HB.out|apply below_alloc|apply pw_below_drewN|apply below_drew1)|exact HB.out)):p:=h
theorem zz45 {p:Prop} (h:p:=by repeat (first|(with_reducible first|exact HB.out|apply below_alloc|apply pw_below_drewN|apply below_drew1|refine below_set ?_ GE845.out|refine below_set ?_ GE847.out)|exact HB.out)):p:=h
theorem zz46 {p:Prop} (h:p:=by first|exact Kd.R_nil _ _ _ _ _|exact Kd.N_nil _ _ _ _ _|exact Kd.V_nil _ _ _ _ _|exact Kd.Q_nil _ _ _ _ _|exact Kd.S_nil _ _ _ _ _):p:=h
theorem zz47 {p:Prop} (h:p:=by repeat (first|exact HB4.out|apply below_alloc|apply pw_below_drewN|apply below_drew1)):p:=h
theorem zz48 {p:Prop} (h:p:=by first|exact HK.out.1|exact (show Kept w _ (fun k_=>P3_ k_) from by repeat (first|(with_reducible first|exact HK.out|apply Kept.alloc|apply Kept.drewN|apply Kept.drew)|exact HK.out)).1):p:=h
theorem zz49 {p:Prop} (h:p:=by repeat (first|(with_reducible exact HR553.out)|(with_reducible refine Kd.C_alloc ?_ _)|(with_reducible refine Kd.C_drewN ?_ _)|(with_reducible refine Kd.C_drew ?_)|exact HR553.out)):p:=h
theorem zz50 {p:Prop} (h:p:=by repeat (first|(with_reducible exact HR533.out)|(with_reducible refine Kd.C_alloc ?_ _)|(with_reducible refine Kd.C_drewN ?_ _)|(with_reducible refine Kd.C_drew ?_)|exact HR533.out)):p:=h
theorem zz51 {p:Prop} (h:p:=by repeat (first|exact HB.out|apply below_drew1|apply pw_below_drewN)):p:=h
theorem zz52 {p:Prop} (h:p:=by (with_reducible repeat (first|apply Kd.V_alloc|apply Kd.V_drewN|apply Kd.V_drew));exact HO4.out):p:=h
theorem zz53 {p:Prop} (h:p:=by have:=HJ14.out;have:=HK2.out;have:=HK3.out;omega):p:=h
theorem zz54 {p:Prop} (h:p:=by repeat (first|(with_reducible first|exact HB.out|apply below_alloc|apply pw_below_drewN|apply below_drew1|refine below_set ?_ GE396.out)|exact HB.out)):p:=h
theorem zz55 {p:Prop} (h:p:=by repeat (first|exact HB2.out|apply below_alloc|apply pw_below_drewN|apply below_drew1)):p:=h
theorem zz56 {p:Prop} (h:p:=by repeat (first|(with_reducible first|exact HB.out|apply below_alloc|apply pw_below_drewN|apply below_drew1|refine below_set ?_ GE468.out)|exact HB.out)):p:=h
theorem zz57 {p:Prop} (h:p:=by repeat (first|(with_reducible first|exact HI0.out|apply IsS51.alloc|apply IsS51.drewN|apply IsS51.drew|apply IsS51.set_1|apply IsS51.set_2|refine IsS51.far ?_ NB0_135.out _)|exact HI0.out)):p:=h
theorem zz58 {p:Prop} (h:p:=by repeat (first|(with_reducible first|exact HB.out|apply below_alloc|apply pw_below_drewN|apply below_drew1|refine below_set ?_ (IsS51.ge HI0.out)|refine below_set ?_ GE135.out)|exact HB.out)):p:=h
theorem zz59 {p:Prop} (h:p:=by repeat (first|(with_reducible exact HR566.out)|(with_reducible refine Kd.C_alloc ?_ _)|(with_reducible refine Kd.C_drewN ?_ _)|(with_reducible refine Kd.C_drew ?_)|exact HR566.out)):p:=h
theorem zz60 {p:Prop} (h:p:=by simp only [putAll,Act.put,List.setIfInBounds_toArray,List.set_cons_zero,List.set_cons_succ]):p:=h
theorem zz61 {p:Prop} (h:p:=by repeat (first|(with_reducible exact HR546.out)|(with_reducible refine Kd.C_alloc ?_ _)|(with_reducible refine Kd.C_drewN ?_ _)|(with_reducible refine Kd.C_drew ?_)|exact HR546.out)):p:=h
theorem zz62 {p:Prop} (h:p:=by repeat (first|(with_reducible first|exact HB.out|apply below_alloc|apply pw_below_drewN|apply below_drew1|refine below_set ?_ GE841.out)|exact HB.out)):p:=h
theorem zz63 {p:Prop} (h:p:=by have:=HK1.out;have:=HK2.out;have:=HK3.out;have:=HJ33.out;omega):p:=h
theorem zz64 {p:Prop} (h:p:=by repeat (first|(with_reducible exact HR441_0.out)|(with_reducible refine Kd.C_alloc ?_ _)|(with_reducible refine Kd.C_drewN ?_ _)|(with_reducible refine Kd.C_drew ?_)|exact HR441_0.out)):p:=h
theorem zz65 {p:Prop} (h:p:=by repeat (first|(with_reducible first|exact HB.out|apply below_alloc|apply pw_below_drewN|apply below_drew1|refine below_set ?_ GE450.out|refine below_set ?_ GE451.out)|exact HB.out)):p:=h
theorem zz66 {p:Prop} (h:p:=by repeat (first|(with_reducible first|exact HI0.out|apply IsS51.alloc|apply IsS51.drewN|apply IsS51.drew|apply IsS51.set_1|apply IsS51.set_2|refine IsS51.far ?_ NB0_115.out _|refine IsS51.far ?_ NB0_131.out _)|exact HI0.out)):p:=h
theorem zz67 {p:Prop} (h:p:=by repeat (first|(with_reducible first|exact HB.out|apply below_alloc|apply pw_below_drewN|apply below_drew1|refine below_set ?_ (IsS51.ge HI0.out)|refine below_set ?_ GE115.out|refine below_set ?_ GE131.out)|exact HB.out)):p:=h
theorem zz68 {p:Prop} (h:p:=by repeat (first|(with_reducible first|exact HK.out|apply KeepBut.set_|apply keep_drewN|apply keep_drew|apply keep_alloc|refine keep_far ?_ GW115.out _|refine keep_far ?_ GW131.out _)|exact HK.out)):p:=h
theorem zz69 {p:Prop} (h:p:=by repeat (first|exact boxed_alloc (by first|rfl|(simp only [alloc_size];done))|apply Boxed.alloc)):p:=h
theorem zz70 {p:Prop} (h:p:=by repeat (first|(with_reducible first|exact HB.out|apply below_alloc|apply pw_below_drewN|apply below_drew1|refine below_set ?_ GE723.out)|exact HB.out)):p:=h
theorem zz71 {p:Prop} (h:p:=by (try simp only [hl6_19]);(with_reducible repeat (first|apply Kd.R_alloc|apply Kd.R_drewN|apply Kd.R_drew));exact HO_6.out):p:=h
theorem zz72 {p:Prop} (h:p:=by repeat (first|(with_reducible exact HR365_0.out)|(with_reducible refine Kd.C_alloc ?_ _)|(with_reducible refine Kd.C_drewN ?_ _)|(with_reducible refine Kd.C_drew ?_)|exact HR365_0.out)):p:=h
theorem zz73 {p:Prop} (h:p:=by (with_reducible repeat (first|refine blk_drewN ?_ _|refine blk_drew ?_|refine blk_alloc ?_ _));refine blk_put (cs:=#[.int .i64 ((rd_T42 l1 x19_2).f0),.int .i64 0]) ?_ 1 _ rfl;(with_reducible repeat (first|refine blk_drewN ?_ _|refine blk_drew ?_|refine blk_alloc ?_ _));refine blk_put (cs:=#[.int .i64 0,.int .i64 0]) ?_ 0 _ rfl;(with_reducible repeat (first|refine blk_drewN ?_ _|refine blk_drew ?_|refine blk_alloc ?_ _));exact BK383.out):p:=h
theorem zz74 {p:Prop} (h:p:=by repeat (first|(with_reducible first|exact HB.out|apply below_alloc|apply pw_below_drewN|apply below_drew1|refine below_set ?_ GE415.out)|exact HB.out)):p:=h
theorem zz75 {p:Prop} (h:p:=by repeat (first|exact (by repeat (first|(with_reducible exact HR553.out)|(with_reducible refine Kd.C_alloc ?_ _)|(with_reducible refine Kd.C_drewN ?_ _)|(with_reducible refine Kd.C_drew ?_)|exact HR553.out))|(with_reducible refine Kd.C_alloc ?_ _)|(with_reducible refine Kd.C_drewN ?_ _)|(with_reducible refine Kd.C_drew ?_))):p:=h
theorem zz76 {p:Prop} (h:p:=by repeat (first|exact (by repeat (first|(with_reducible exact HR533.out)|(with_reducible refine Kd.C_alloc ?_ _)|(with_reducible refine Kd.C_drewN ?_ _)|(with_reducible refine Kd.C_drew ?_)|exact HR533.out))|(with_reducible refine Kd.C_alloc ?_ _)|(with_reducible refine Kd.C_drewN ?_ _)|(with_reducible refine Kd.C_drew ?_))):p:=h
theorem zz77 {p:Prop} (h:p:=by first|(rw [add_block];exact (fun e_=>((HL724_0.out.1 _ e_.symm).2) rfl))|(show some (Addr.add _ _).block≠_;rw [add_block];exact (fun e_=>((HL724_0.out.1 _ e_.symm).2) rfl))|exact (fun e_=>((HL724_0.out.1 _ e_.symm).2) rfl)):p:=h
theorem zz78 {p:Prop} (h:p:=by (with_reducible repeat (first|apply Kd.S_alloc|apply Kd.S_drewN|apply Kd.S_drew));exact Kd.S_mono (Kd.S_far (p:=⟨gb847,2,none⟩) (Kd.S_far (p:=⟨gb847,1,none⟩) (Kd.S_far (p:=⟨gb847,0,none⟩) (Kd.S_types HO_9.out BK847.out (by decide)) (fun _ hk=>hk.2) (.int .i64 ((rd_T73 l3 x60_3).f0))) (fun _ hk=>hk.2) (.int .i64 ((rd_T73 l3 x60_3).f1))) (fun _ hk=>hk.2) (.int .i64 ((rd_T73 l3 x60_3).f2))) (fun _ hk=>trivial)):p:=h
theorem zz79 {p:Prop} (h:p:=by (with_reducible repeat (first|refine blk_drewN ?_ _|refine blk_drew ?_|refine blk_alloc ?_ _));refine blk_far ?_ NB845_847.out _;(with_reducible repeat (first|refine blk_drewN ?_ _|refine blk_drew ?_|refine blk_alloc ?_ _));refine blk_far ?_ NB845_847.out _;(with_reducible repeat (first|refine blk_drewN ?_ _|refine blk_drew ?_|refine blk_alloc ?_ _));refine blk_far ?_ NB845_847.out _;(with_reducible repeat (first|refine blk_drewN ?_ _|refine blk_drew ?_|refine blk_alloc ?_ _));exact BK845.out):p:=h
theorem zz80 {p:Prop} (h:p:=by (with_reducible repeat (first|refine blk_drewN ?_ _|refine blk_drew ?_|refine blk_alloc ?_ _));refine blk_put (cs:=#[.int .i64 ((rd_T73 l3 x60_3).f0),.int .i64 ((rd_T73 l3 x60_3).f1),.int .i64 0]) ?_ 2 _ rfl;(with_reducible repeat (first|refine blk_drewN ?_ _|refine blk_drew ?_|refine blk_alloc ?_ _));refine blk_put (cs:=#[.int .i64 ((rd_T73 l3 x60_3).f0),.int .i64 0,.int .i64 0]) ?_ 1 _ rfl;(with_reducible repeat (first|refine blk_drewN ?_ _|refine blk_drew ?_|refine blk_alloc ?_ _));refine blk_put (cs:=#[.int .i64 0,.int .i64 0,.int .i64 0]) ?_ 0 _ rfl;(with_reducible repeat (first|refine blk_drewN ?_ _|refine blk_drew ?_|refine blk_alloc ?_ _));exact BK847.out):p:=h
theorem zk2 {w:World} {g:Nat} {t:TypeId} {a b:Value} (h:w.heap[g]?=some (.cells #[a,b] t (0,0))):w.cell? ⟨g,0,none⟩=some a/\w.cell? ⟨g,1,none⟩=some b/\w.frozen? ⟨g,0,none⟩=false/\w.frozen? ⟨g,1,none⟩=false:=⟨(blk_cell h 0).trans rfl,(blk_cell h 1).trans rfl,blk_frozen h 0,blk_frozen h 1⟩
theorem zk3 {w:World} {g:Nat} {t:TypeId} {a b c:Value} (h:w.heap[g]?=some (.cells #[a,b,c] t (0,0))):w.cell? ⟨g,0,none⟩=some a/\w.cell? ⟨g,1,none⟩=some b/\w.cell? ⟨g,2,none⟩=some c/\w.frozen? ⟨g,0,none⟩=false/\w.frozen? ⟨g,1,none⟩=false/\w.frozen? ⟨g,2,none⟩=false:=⟨(blk_cell h 0).trans rfl,(blk_cell h 1).trans rfl,(blk_cell h 2).trans rfl,blk_frozen h 0,blk_frozen h 1,blk_frozen h 2⟩
theorem zk4 {w:World} {g:Nat} {t:TypeId} {a b c d:Value} (h:w.heap[g]?=some (.cells #[a,b,c,d] t (0,0))):w.cell? ⟨g,0,none⟩=some a/\w.cell? ⟨g,1,none⟩=some b/\w.cell? ⟨g,2,none⟩=some c/\w.cell? ⟨g,3,none⟩=some d/\w.frozen? ⟨g,0,none⟩=false/\w.frozen? ⟨g,1,none⟩=false/\w.frozen? ⟨g,2,none⟩=false/\w.frozen? ⟨g,3,none⟩=false:=⟨(blk_cell h 0).trans rfl,(blk_cell h 1).trans rfl,(blk_cell h 2).trans rfl,(blk_cell h 3).trans rfl,blk_frozen h 0,blk_frozen h 1,blk_frozen h 2,blk_frozen h 3⟩
theorem zh_ {b:Nat} {w w':World} {a:Addr} {v:Value} (hB:Aside0 (Below b w w')) (h:w.cell? a=some v) (hb:b=w.heap.size:=by rfl):w'.cell? a=some v:=by subst hb;exact (hB.out.cell (World.block_lt_of_cell? w _ h)).trans h
theorem pu_ {P:Program} {ops:Array Oper} {Q:Exit->Act->World->Prop} {md:Region.Mode} {S:World->Prop} {ds:List Nat} {oi:Oper} {v:Value} {fuel:Nat} {l:Array Bool} {a a':Act} {w:World} (i n:Nat) (h:wpAnyLast P md ops Q S ds fuel (l.setIfInBounds i true) a' w) (hi:ops[i]?=some oi:=by exact rfl) (hN:oi.dst=some n:=by exact rfl) (hc:anyB md ops l (l.setIfInBounds i true) i=true:=by first|exact any_of HT_.out (by kernel_rfl)|kernel_rfl) (hQ:∀ c a w,Q (.panic c) (a.put oi.dst v) w->Q (.panic c) a w:=by exact fun _ _ _ h=>h) (hy:Yields P ops oi v a:=by exact Or.inl ⟨by rfl,by intro w';go_simp;with_reducible rfl⟩) (ha:a.put (some n) v=a':=by simp only [Act.put,List.setIfInBounds_toArray,List.set_cons_zero,List.set_cons_succ,i64_w,i32_w];rfl):wpAnyLast P md ops Q S ds (fuel + 1) l a w:=pure_ (l.setIfInBounds i true) hi hN hc hQ hy ha h
theorem tk_ {P:Program} {ops:Array Oper} {Q:Exit->Act->World->Prop} {md:Region.Mode} {S:World->Prop} {ds:List Nat} {oi:Oper} {v:Value} {fuel:Nat} {l:Array Bool} {a a':Act} {w:World} (i n:Nat) (hS:S w) (h:wpAnyLast P md ops Q S ds fuel (l.setIfInBounds i true) a' w) (hi:ops[i]?=some oi:=by exact rfl) (hN:oi.dst=some n:=by exact rfl) (hc:takeB md ops ds l (l.setIfInBounds i true) i=true:=by first|exact take_ofW HT_.out HW_.out (by kernel_rfl)|exact take_of HT_.out (by kernel_rfl)|kernel_rfl) (hQ:∀ c a w,Q (.panic c) (a.put oi.dst v) w->Q (.panic c) a w:=by exact fun _ _ _ h=>h) (hy:YieldsIf P ops S oi v a:=by exact Or.inl ⟨by rfl,by intro w' hs_;(repeat (obtain ⟨s_,hs_⟩:=hs_));go_simp;with_reducible rfl⟩) (ha:a.put (some n) v=a':=by simp only [Act.put,List.setIfInBounds_toArray,List.set_cons_zero,List.set_cons_succ,i64_w,i32_w];rfl):wpAnyLast P md ops Q S ds (fuel + 1) l a w:=take_ (l.setIfInBounds i true) hi hN hc hQ hy hS ha h
theorem pv_ {P:Program} {ops:Array Oper} {Q:Exit->Act->World->Prop} {md:Region.Mode} {S:World->Prop} {ds:List Nat} {oi:Oper} {fuel:Nat} {l:Array Bool} {a a':Act} {w:World} (i n:Nat) (h:wpAnyLast P md ops Q S ds fuel (l.setIfInBounds i true) a' w) (hi:ops[i]?=some oi:=by exact rfl) (hN:oi.dst=some n:=by exact rfl) (hc:anyB md ops l (l.setIfInBounds i true) i=true:=by first|exact any_of HT_.out (by kernel_rfl)|kernel_rfl) (hQ:∀ c a w,Q (.panic c) (a.put oi.dst undef) w->Q (.panic c) a w:=by exact fun _ _ _ h=>h) (hy:Yields P ops oi undef a:=by exact Or.inr ⟨by rfl,rfl⟩) (ha:a.put (some n) undef=a':=by simp only [Act.put,List.setIfInBounds_toArray,List.set_cons_zero,List.set_cons_succ,i64_w,i32_w];rfl):wpAnyLast P md ops Q S ds (fuel + 1) l a w:=pure_ (l.setIfInBounds i true) hi hN hc hQ hy ha h
theorem zb1 {w W w2:World} (k:Below W.heap.size W w2) (h:Below w.heap.size w W:=by repeat (first|(with_reducible first|exact HB.out|apply below_alloc|apply pw_below_drewN|apply below_drew1)|exact HB.out)):Aside0 (Below w.heap.size w w2):=⟨below_step h k⟩
theorem zRb {α:Type} {d:Kd α} {e b:Nat} {w w' w2:World} {ok:Nat->Prop} {v:Value} {xs:List α} (h:Aside0 (d.R e w b ok v xs)) (k:Below w'.heap.size w' w2) (hb:Below w.heap.size w w':=by repeat (first|(with_reducible exact Below.refl _ _)|(with_reducible apply below_alloc)|(with_reducible apply pw_below_drewN)|(with_reducible apply below_drew1))):Aside0 (d.R e w2 b ok v xs):=⟨Kd.R_below (Kd.R_below h.out hb) k⟩
theorem zSb {α:Type} {d:Kd α} {e b:Nat} {w w' w2:World} {ok:Nat->Prop} {v:Value} {xs:List α} (h:Aside0 (Kd.S d e w b ok v xs)) (k:Below w'.heap.size w' w2) (hb:Below w.heap.size w w':=by repeat (first|(with_reducible exact Below.refl _ _)|(with_reducible apply below_alloc)|(with_reducible apply pw_below_drewN)|(with_reducible apply below_drew1))):Aside0 (Kd.S d e w2 b ok v xs):=⟨Kd.S_below (Kd.S_below h.out hb) k⟩
theorem zgo {P:Program} {ops:Array Oper} {Q:Exit→Act→World→Prop} {rest:List Oper} {oi:Oper} {a:Act} {w:World} (n:Nat) {f:FuncId} {fn:Func} {as_:Array Operand} {ts:Array TypeId} (hf:P.funcs[f]?=some fn) (args:Array Value) (h:Calls P f args w fun e w'=>∃ v,e=.returned v∧wpList P ops Q rest (a.put (some n) v) w') (hd:oi.dst=some n:=by exact rfl) (hg:oi.guard=none:=by exact rfl) (hname:(fn.name == "runtime.NumGoroutine")=false:=by kernel_rfl) (hb:fn.body.isSome=true:=by exact rfl) (hop:oi.op=.call {callee:=.value (.func f),args:=as_,argTypes:=ts}:=by exact rfl) (hargs:as_.map a.eval=args:=by exact zl):wpList P ops Q (oi::rest) a w:=goesL_ (some n) hd hg hf hname hb args hop hargs h
theorem gD {α:Type} {c:Prop} [Decidable c] {a:Option α} {r:α} (H:(if c then a else none)=some r):decide c=true/\a=some r:=by by_cases h:c;exact ⟨decide_eq_true h,by rwa [if_pos h] at H⟩;rw [if_neg h] at H;cases H
theorem gE {α:Type} {c:Prop} [Decidable c] {a:Option α} {r:α} (H:(if c then a else none)=some r):(c=True)/\decide c=true/\a=some r:=⟨eq_true (od_ (gD H).1),gD H⟩
theorem gL {α:Type} {c:Prop} [Decidable c] {a:Option α} {r:α} (H:(if c then a else none)=some r):Aside0 c/\a=some r:=⟨⟨od_ (gD H).1⟩,(gD H).2⟩
theorem gC {α:Type} {c:Prop} [Decidable c] {a:Option α} {r:α} (H:(if c then a else none)=some r):c/\a=some r:=⟨od_ (gD H).1,(gD H).2⟩
theorem gP {α:Type} {c:Prop} [Decidable c] {a b r:α} (H:(if c then a else b)=r):c/\a=r\/¬ c/\b=r:=by by_cases h:c;exact .inl ⟨h,by rwa [if_pos h] at H⟩;exact .inr ⟨h,by rwa [if_neg h] at H⟩
theorem gN {α:Type} {c:Prop} [Decidable c] {a b r:α} (H:(if c then a else b)=r):¬ c/\b=r\/c/\a=r:=(gP H).symm
theorem gPD {α:Type} {c:Prop} [Decidable c] {a b r:α} (H:(if c then a else b)=r):decide c=true/\a=r\/decide c=false/\b=r:=(gP H).imp (fun h=>⟨decide_eq_true h.1,h.2⟩) (fun h=>⟨decide_eq_false h.1,h.2⟩)
theorem gND {α:Type} {c:Prop} [Decidable c] {a b r:α} (H:(if c then a else b)=r):decide c=false/\b=r\/decide c=true/\a=r:=(gPD H).symm
theorem gPB {α:Type} {t:Bool} {a b r:α} (H:(if t=true then a else b)=r):t=true/\a=r\/t=false/\b=r:=(gP H).imp id (fun h=>⟨Bool.eq_false_iff.mpr h.1,h.2⟩)
theorem gNB {α:Type} {t:Bool} {a b r:α} (H:(if t=true then a else b)=r):t=false/\b=r\/t=true/\a=r:=(gPB H).symm
theorem gT {α β:Type} {o:Option α} {f:α->Option β} {r:β} (H:o.bind f=some r):∃ t,Aside0 (o=some t)/\f t=some r:=(Option.bind_eq_some_iff.mp H).imp fun _ h=>⟨⟨h.1⟩,h.2⟩
theorem gY {α β:Type} {x:α} {f:α->Option β} {r:Option β} (H:(some x).bind f=r):∃ y,Aside0 (y=x)/\f y=r:=⟨x,⟨rfl⟩,H⟩
attribute [go_sem] max2_int min2_int max_two min_two max_three min_three max_four min_four idxA_42_0 idxA_42_1 fldS_51_0 fldS_51_1 fldS_51_2
