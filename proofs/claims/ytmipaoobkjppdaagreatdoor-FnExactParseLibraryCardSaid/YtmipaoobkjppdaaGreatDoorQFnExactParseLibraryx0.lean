import Derived.Lib.SliceRun
import Derived.Test.YtmipaoobkjppdaaGreatDoorTabFnExactParseLibrary
import Derived.Shelf.SlicesE.DeleteFunc
import Derived.Sort.OwnSortedInts
import Derived.Test.YtmipaoobkjppdaaGreatDoorLay
import Derived.Test.YtmipaoobkjppdaaGreatDoorLay2
import Derived.Shelf.Strconv.Itoa4
import Derived.Shelf.Strings.BuilderK
import Derived.Shelf.Strings.SplitShaped
import Derived.Shelf.Strconv.AtoiAll
import Derived.Shelf.Strconv.ErrVarAll
import Derived.Test.YtmipaoobkjppdaaGreatDoorFunc
import Derived.Test.YtmipaoobkjppdaaGreatDoorWEqStruct
import Derived.Test.YtmipaoobkjppdaaGreatDoorWRepsOne
import Derived.Test.YtmipaoobkjppdaaGreatDoorWInv
import Derived.Test.YtmipaoobkjppdaaGreatDoorWGuard
import Derived.Test.YtmipaoobkjppdaaGreatDoorWMore
namespace Go.Proofs.YtmipaoobkjppdaaGreatDoor.QFnExactParseLibrary
open Go.RowKit Go.Proofs.YtmipaoobkjppdaaGreatDoorW 
open PrintWords PrintLast PrintMore
attribute [local go_sem] cA cB cX cY cd cf cD cG
set_option linter.unusedVariables false
set_option linter.unusedSimpArgs false
def errW:Option Int→Value
 | none=>.nilIface
 | some c=>.iface 0 (.int .i64 c)
theorem fx:errW none=.nilIface:=rfl
theorem fy (c:Int):errW (some c)=.iface 0 (.int .i64 c):=rfl
theorem kZ:(Tryz.prog.info? 9).map (fun i=>(i.zero,i.size,i.bytes))=some (some (.string ⟨#[]⟩),1,16):=by kernel_rfl
theorem mT:(Tryz.prog.info? 35).map (fun i=>(i.zero,i.size,i.bytes))=some (some (.agg #[(.int .i64 0),(.int .i64 0),(.int .i64 0),(.int .i64 0),(.int .i64 0),(.string ⟨#[]⟩)]),6,56):=by kernel_rfl
theorem lE:(Tryz.prog.info? 48).map (fun i=>(i.zero,i.size,i.bytes))=some (some (.agg #[(.string ⟨#[]⟩),(.slice none 0 0)]),2,40):=by kernel_rfl
theorem mU:(Tryz.prog.info? 52).map (fun i=>(i.zero,i.size,i.bytes))=some (some (.agg #[(.string ⟨#[]⟩),(.slice none 0 0)]),2,40):=by kernel_rfl
structure cw where
 f0:Int
 f1:Int
 f2:Int
 f3:Int
 f4:Int
 f5:ByteArray
def z35:cw:=⟨(0:Int),(0:Int),(0:Int),(0:Int),(0:Int),(⟨#[]⟩:ByteArray)⟩
def eR:Kd cw:=Kd.iso (Kd.pair (Kd.int .i64) (Kd.pair (Kd.int .i64) (Kd.pair (Kd.int .i64) (Kd.pair (Kd.int .i64) (Kd.pair (Kd.int .i64) Kd.string))))) (fun x:cw=>(x.f0,x.f1,x.f2,x.f3,x.f4,x.f5))
theorem ph {w:World} {x:cw} {cs:List Value} (h:eR.K w x cs):cs=[.int .i64 x.f0,.int .i64 x.f1,.int .i64 x.f2,.int .i64 x.f3,.int .i64 x.f4,.string x.f5]:=by
 obtain⟨_,_,rfl,rfl,⟨_,_,rfl,rfl,⟨_,_,rfl,rfl,⟨_,_,rfl,rfl,⟨_,_,rfl,rfl,rfl⟩⟩⟩⟩⟩:=h;exact rfl
theorem dF {w:World} {base:Nat} {ok:Nat→Prop} {x:cw} {cs:List Value} (h:eR.M w base ok x cs):cs=[.int .i64 x.f0,.int .i64 x.f1,.int .i64 x.f2,.int .i64 x.f3,.int .i64 x.f4,.string x.f5]:=by
 obtain⟨_,_,rfl,rfl,⟨_,_,rfl,rfl,⟨_,_,rfl,rfl,⟨_,_,rfl,rfl,⟨_,_,rfl,rfl,rfl⟩⟩⟩⟩⟩:=h;exact rfl
theorem fw (w:World) (base:Nat) (ok:Nat→Prop) (x:cw)  :eR.M w base ok x [.int .i64 x.f0,.int .i64 x.f1,.int .i64 x.f2,.int .i64 x.f3,.int .i64 x.f4,.string x.f5]:=⟨[.int .i64 x.f0],[.int .i64 x.f1,.int .i64 x.f2,.int .i64 x.f3,.int .i64 x.f4,.string x.f5],rfl,rfl,⟨[.int .i64 x.f1],[.int .i64 x.f2,.int .i64 x.f3,.int .i64 x.f4,.string x.f5],rfl,rfl,⟨[.int .i64 x.f2],[.int .i64 x.f3,.int .i64 x.f4,.string x.f5],rfl,rfl,⟨[.int .i64 x.f3],[.int .i64 x.f4,.string x.f5],rfl,rfl,⟨[.int .i64 x.f4],[.string x.f5],rfl,rfl,rfl⟩⟩⟩⟩⟩
def ab (xs:List cw) (i:Int):cw:=xs.getD i.toNat z35
theorem cx {w:World} {A:Option Addr} {n:Nat} {xs:List cw} (h:Kd.C eR w A n xs) (i:Int) (h0:0≤i) (h1:i<n):∃ad ,A=some ad∧w.cell? (ad.add (i.toNat*6))=some (.int .i64 (ab xs i).f0)∧w.cell? ⟨(ad.add (i.toNat*6)).block,(ad.add (i.toNat*6)).off+1,none⟩=some (.int .i64 (ab xs i).f1)∧w.cell? ⟨(ad.add (i.toNat*6)).block,(ad.add (i.toNat*6)).off+2,none⟩=some (.int .i64 (ab xs i).f2)∧w.cell? ⟨(ad.add (i.toNat*6)).block,(ad.add (i.toNat*6)).off+3,none⟩=some (.int .i64 (ab xs i).f3)∧w.cell? ⟨(ad.add (i.toNat*6)).block,(ad.add (i.toNat*6)).off+4,none⟩=some (.int .i64 (ab xs i).f4)∧w.cell? ⟨(ad.add (i.toNat*6)).block,(ad.add (i.toNat*6)).off+5,none⟩=some (.string (ab xs i).f5):=by
 obtain⟨ad,c,e,_,hK,hc0⟩:=Kd.o2 h z35 i h0 h1;have hc:∀j u,c[j]? =some u→w.cell? (ad.add (i.toNat*6+j))=some u:=hc0;obtain rfl:=ph hK;exact⟨ad,e,hc 0 _ rfl,by rw[←eW _ _ 1 (by omega)];exact hc 1 _ rfl,by rw[←eW _ _ 2 (by omega)];exact hc 2 _ rfl,by rw[←eW _ _ 3 (by omega)];exact hc 3 _ rfl,by rw[←eW _ _ 4 (by omega)];exact hc 4 _ rfl,by rw[←eW _ _ 5 (by omega)];exact hc 5 _ rfl⟩
structure cW where
 f0:ByteArray
 f1:(List cw)
def eH:cW:=⟨(⟨#[]⟩:ByteArray),([]:List cw)⟩
def fN:Kd cW:=Kd.iso (Kd.pair Kd.string (Kd.slice 35 eR)) (fun x:cW=>(x.f0,x.f1))
theorem pj {w:World} {x:cW} {cs:List Value} (h:fN.K w x cs):∃A1 c1,cs=[.string x.f0,.slice A1 x.f1.length c1]∧x.f1.length≤c1∧eR.C w A1 x.f1.length x.f1:=by
 obtain⟨_,_,rfl,rfl,⟨A1,c1,rfl,l1,g1⟩⟩:=h;exact⟨A1,c1,rfl,l1,g1⟩
theorem oy {w:World} {base:Nat} {ok:Nat→Prop} {x:cW} {cs:List Value} (h:fN.M w base ok x cs):∃v1,cs=[.string x.f0,v1]∧eR.R 35 w base ok v1 x.f1:=by
 obtain⟨_,_,rfl,rfl,⟨v1,rfl,g1⟩⟩:=h;exact⟨v1,rfl,g1⟩
theorem iK (w:World) (base:Nat) (ok:Nat→Prop) (x:cW) {v1:Value} (g1:eR.R 35 w base ok v1 x.f1):fN.M w base ok x [.string x.f0,v1]:=⟨[.string x.f0],[v1],rfl,rfl,⟨v1,rfl,g1⟩⟩
def aq (xs:List cW) (i:Int):cW:=xs.getD i.toNat eH
theorem dC {w:World} {A:Option Addr} {n:Nat} {xs:List cW} (h:Kd.C fN w A n xs) (i:Int) (h0:0≤i) (h1:i<n):∃ad A1 c1,A=some ad∧w.cell? (ad.add (i.toNat*2))=some (.string (aq xs i).f0)∧w.cell? ⟨(ad.add (i.toNat*2)).block,(ad.add (i.toNat*2)).off+1,none⟩=some (.slice A1 (aq xs i).f1.length c1)∧(aq xs i).f1.length≤c1∧eR.C w A1 (aq xs i).f1.length (aq xs i).f1:=by
 obtain⟨ad,c,e,_,hK,hc0⟩:=Kd.o2 h eH i h0 h1;have hc:∀j u,c[j]? =some u→w.cell? (ad.add (i.toNat*2+j))=some u:=hc0;obtain⟨A1,c1,rfl,l1,g1⟩:=pj hK;exact⟨ad,A1,c1,e,hc 0 _ rfl,by rw[←eW _ _ 1 (by omega)];exact hc 1 _ rfl,l1,g1⟩
structure bY where
 f0:ByteArray
 f1:(List cW)
def gp:bY:=⟨(⟨#[]⟩:ByteArray),([]:List cW)⟩
def lQ:Kd bY:=Kd.iso (Kd.pair Kd.string (Kd.slice 52 fN)) (fun x:bY=>(x.f0,x.f1))
theorem pk {w:World} {x:bY} {cs:List Value} (h:lQ.K w x cs):∃A1 c1,cs=[.string x.f0,.slice A1 x.f1.length c1]∧x.f1.length≤c1∧fN.C w A1 x.f1.length x.f1:=by
 obtain⟨_,_,rfl,rfl,⟨A1,c1,rfl,l1,g1⟩⟩:=h;exact⟨A1,c1,rfl,l1,g1⟩
theorem k48_mkM (w:World) (base:Nat) (ok:Nat→Prop) (x:bY) {v1:Value} (g1:fN.R 52 w base ok v1 x.f1):lQ.M w base ok x [.string x.f0,v1]:=⟨[.string x.f0],[v1],rfl,rfl,⟨v1,rfl,g1⟩⟩
def aN (xs:List bY) (i:Int):bY:=xs.getD i.toNat gp
theorem dD {w:World} {A:Option Addr} {n:Nat} {xs:List bY} (h:Kd.C lQ w A n xs) (i:Int) (h0:0≤i) (h1:i<n):∃ad A1 c1,A=some ad∧w.cell? (ad.add (i.toNat*2))=some (.string (aN xs i).f0)∧w.cell? ⟨(ad.add (i.toNat*2)).block,(ad.add (i.toNat*2)).off+1,none⟩=some (.slice A1 (aN xs i).f1.length c1)∧(aN xs i).f1.length≤c1∧fN.C w A1 (aN xs i).f1.length (aN xs i).f1:=by
 obtain⟨ad,c,e,_,hK,hc0⟩:=Kd.o2 h gp i h0 h1;have hc:∀j u,c[j]? =some u→w.cell? (ad.add (i.toNat*2+j))=some u:=hc0;obtain⟨A1,c1,rfl,l1,g1⟩:=pk hK;exact⟨ad,A1,c1,e,hc 0 _ rfl,by rw[←eW _ _ 1 (by omega)];exact hc 1 _ rfl,l1,g1⟩
end Go.Proofs.YtmipaoobkjppdaaGreatDoor.QFnExactParseLibrary
set_option linter.unusedVariables false
namespace Go.Proofs.YtmipaoobkjppdaaGreatDoorW.PrintWords
open Go.RowKit
theorem ae {p:Prop} (h:p):Aside0 p:=⟨h⟩
theorem bL {α:Type} {a b:α} (h:some a=some b):a=b:=Option.some.inj h
theorem gq {α β:Type} {o:Option α} {f:α→Option β} {b:β} (h:o.bind f=some b):∃a,o=some a∧f a=some b:=Option.bind_eq_some_iff.mp h
theorem dr {α β:Type} (a:α) (f:α→Option β):(some a).bind f=f a:=rfl
theorem di {α:Type} [BEq α] [LawfulBEq α] {a b:α} (h:a≠b):(a==b)=false:=beq_eq_false_iff_ne.mpr h
theorem ed {α:Type} [BEq α] [LawfulBEq α] {a b:α} (h:a=b):(a !=b)=false:=bne_eq_false_iff_eq.mpr h
theorem dX {α:Type} [BEq α] [LawfulBEq α] {a b:α} (h:a=b):(a==b)=true:=beq_iff_eq.mpr h
theorem ee {α:Type} [BEq α] [LawfulBEq α] {a b:α} (h:a≠b):(a !=b)=true:=bne_iff_ne.mpr h
theorem eK {b:Bool} (h:¬b=true):b=false:=Bool.eq_false_iff.mpr h
theorem bW {p:Prop} [i:Decidable p] (h:p):decide p=true:=decide_eq_true h
theorem b5 {p:Prop} [i:Decidable p] (h:¬p):decide p=false:=decide_eq_false h
theorem bl {b:Nat} {w w':World} (h:Below b w w':=by repeat(first|(with_reducible first|exact HB.out|apply bF|apply fD|apply bZ|refine ag ?_ (Aside0.out (by with_reducible assumption)))|exact HB.out)):Below b w w':=h
theorem jL {q p:Prop} (H:Aside0 q) (f:q→p:=by intro h_;(with_reducible repeat(first|apply Kd.du|apply Kd.dw|apply Kd.dA));exact h_):p:=f H.out
theorem fA {q p:Prop} (h:q) (f:q→p:=by intro h_;repeat(first|exact h_|(with_reducible refine Kd.C_alloc ?_ _)|(with_reducible refine Kd.C_drewN ?_ _)|(with_reducible refine Kd.C_drew ?_))):p:=f h
theorem ch {w W w2:World} (k:Below W.heap.size W w2) (h:Below w.heap.size w W:=by exact bl):Aside0 (Below w.heap.size w w2):=⟨aD h k⟩
theorem db {w W:World} {g:Nat} (hg:g=W.heap.size) (h:Below w.heap.size w W:=by exact bl):Aside0 (w.heap.size≤g):=⟨hg▸aK h⟩
theorem blkl {w:World} {g:Nat} {t:TypeId} {l l':List Value} (h:w.heap[g]? =some (.cells l.toArray t (0,0))) (i:Nat) (u:Value) (e:l.set i u=l'):(w.setCell ⟨g,i,none⟩ u).heap[g]? =some (.cells l'.toArray t (0,0)):=aj h i u (by rw[List.setIfInBounds_toArray,e])
theorem bk {q p:Prop} (H:Aside0 q) (f:q→p:=by intro h_;(with_reducible repeat(first|refine ja ?_ _|refine fh ?_|refine iZ ?_ _));exact h_):p:=f H.out
theorem gH {q p:Prop} (H:Aside0 q) (f:q→p:=by intro h_;(repeat(with_reducible first|exact h_|refine ja ?_ _|refine fh ?_|refine iZ ?_ _|refine et ?_ (Aside0.out (by with_reducible assumption)) _|apply blkl));all_goals exact rfl):p:=f H.out
theorem dW {w0 w w1:World} {g:Nat} {o:Obj} (H:Aside0 (w0.heap[g]? =some o)) (hb:Below w.heap.size w w1) (f:w0.heap[g]? =some o→w.heap[g]? =some o:=by intro h_;(with_reducible repeat(first|refine ja ?_ _|refine fh ?_|refine iZ ?_ _));exact h_):Aside0 (w1.heap[g]? =some o):=⟨aG (f H.out) hb⟩
theorem dG {P:Program} {ops:Array Oper} {rest:List Oper} {o:Oper} {a:Act} {Q:Exit→Act→World→Prop} {W:World} (N:Tmp) (cs:Array Value) (t:TypeId) (h:∀g,g=W.heap.size→∀w1,w1.heap[g]? =some (.cells cs t (0,0))→Below W.heap.size W w1→wpList P ops Q rest (a.put o.dst (.pointer (some ⟨g,0,none⟩))) w1) (hd:o.dst=some N:=by exact rfl) (hgd:o.guard=none:=by exact rfl)
    (hrun:(execOp a.eval o).run P W=.ok (.value (.pointer (some ⟨W.heap.size,0,none⟩))) (W.alloc (.cells cs t (0,0))):=by first|(go_simp;done)|(go_simp;rfl)):wpList P ops Q (o::rest) a W:=dj hgd hd hrun h
theorem df {α β:Type} {o:Option α} {f:α→Option β} {r:β} (H:o.bind f=some r):∃a,Aside0 (o=some a)∧f a=some r:=by
  obtain⟨a,h1,h2⟩:=Option.bind_eq_some_iff.mp H;exact⟨a,⟨h1⟩,h2⟩
theorem dm {P:Program} {ops:Array Oper} {Q:Exit→Act→World→Prop} {rest:List Oper} {oi:Oper} {a:Act} {w:World} {f:FuncId} {fn:Func} {ops':Array Operand} {ts:Array TypeId} (N:Option Tmp) (hf:P.funcs[f]? =some fn) (args:Array Value) (h:Calls P f args w fun e w'=>∃v,e=.returned v∧wpList P ops Q rest (a.put N v) w') (hd:oi.dst=N:=by exact rfl) (hg:oi.guard=none:=by exact rfl) (hname:(fn.name== "runtime.NumGoroutine")=false:=by kernel_rfl) (hb:fn.body.isSome=true:=by exact rfl) (hop:oi.op=.call { callee:=.value (.func f),args:=ops',argTypes:=ts }:=by exact rfl) (hargs:ops'.map a.eval=args:=by(try simp only[List.map_toArray,List.map_cons,List.map_nil]);first|done|rfl|(simp only[List.length_drop,List.length_take];rfl)):wpList P ops Q (oi::rest) a w:=PrintLast.goesL_ N hd hg hf hname hb args hop hargs h
theorem bg {w w':World} {p:Addr} {v:Value} (H:Aside0 (Below w.heap.size w w')) (h:w.cell? p=some v):w'.cell? p=some v:=(H.out.cell (World.block_lt_of_cell? w _ h)).trans h
theorem bN {p:Prop} [Decidable p] (h:decide p=true:=by first|(with_reducible assumption)|assumption):p:=of_decide_eq_true h
theorem cu {p:Prop} {w w':World} (h:p:=by first|rfl|(simp[fx,fy]<;>rfl)|(simp[*,fx,fy]<;>rfl)) (k:Below w.heap.size w w':=by exact bl):p∧Below w.heap.size w w':=⟨h,k⟩
theorem kL {p:Prop} {w w':World} (h:p:=by first|rfl|(simp;done)) (k:Below w.heap.size w w':=by exact bl):p∧Below w.heap.size w w':=⟨h,k⟩
theorem fF {α:Type} {a:α} {l:List α} {b:α}:(a::l).set 0 b=b::l:=List.set_cons_zero
theorem fG {α:Type} {a:α} {l:List α} {n:Nat} {b:α}:(a::l).set (n+1) b=a::l.set n b:=List.set_cons_succ
theorem fH {α:Type} (l:List α) (i:Nat) (x:α):l.toArray.setIfInBounds i x=(l.set i x).toArray:=List.setIfInBounds_toArray ..
section
open PrintLast
variable {P:Program} {ops:Array Oper} {Q:Exit→Act→World→Prop} {md:Region.Mode} {S:World→Prop} {ds:List Nat}
theorem pu {i fuel:Nat} {N:Option Tmp} {oi:Oper} {v:Value} {l l':Array Bool} {a a':Act} {w:World} (hc:o7 md ops l l' i=true) (h:bz P md ops Q S ds fuel l' a' w)
    (hi:ops[i]? =some oi:=by exact rfl) (hN:oi.dst=N:=by exact rfl) (hQ:∀c a w,Q (.panic c) (a.put oi.dst v) w→Q (.panic c) a w:=by exact fun _ _ _ h=>h)
    (hy:Yields P ops oi v a:=by refine Or.inl ⟨by rfl,?_⟩;intro w';go_simp;with_reducible rfl)
    (ha:a.put N v=a':=by simp only[Act.put,List.setIfInBounds_toArray,List.set_cons_zero,List.set_cons_succ,b7,b8];rfl):bz P md ops Q S ds (fuel+1) l a w:=jt l' hi hN hc hQ hy ha h
theorem ik {i fuel:Nat} {N:Option Tmp} {oi:Oper} {l l':Array Bool} {a:Act} {w:World} (hc:iA md ops l l' i=true) (h:∀K:Act→World→Prop,Shut (∀a' w',S w'→(S w'→bz P md ops Q S ds fuel l' a' w')→K a' w')→if Region.wanted oi (yielded ops a.tmps)=true then Oper.wp P oi a w K Q else K (a.put N undef) w)
    (hi:ops[i]? =some oi:=by exact rfl) (hN:oi.dst=N:=by exact rfl) (hd:i∉ds:=by decide):bz P md ops Q S ds (fuel+1) l a w:=one_ l' hi hN hc hd h
theorem kM {oi:Oper} {N:Option Tmp} {a:Act} {w:World} {K:Act→World→Prop} {f:FuncId} {fn:Func} {ops':Array Operand} {ts:Array TypeId} (hf:P.funcs[f]? =some fn) (args:Array Value) (h:Calls P f args w fun e w'=>∃v,e=.returned v∧K (a.put N v) w') (hname:(fn.name== "runtime.NumGoroutine")=false:=by kernel_rfl) (hb:fn.body.isSome=true:=by exact rfl)
    (hw:Region.wanted oi (yielded ops a.tmps)=true:=by rfl) (hN:oi.dst=N:=by exact rfl) (hop:oi.op=.call { callee:=.value (.func f),args:=ops',argTypes:=ts }:=by exact rfl) (hargs:ops'.map a.eval=args:=by(try simp only[List.map_toArray,List.map_cons,List.map_nil]);first|done|rfl|(simp only[List.length_drop,List.length_take];rfl)):if Region.wanted oi (yielded ops a.tmps)=true then Oper.wp P oi a w K Q else K (a.put N undef) w:=goes_ hf hname hb args hw hN hop hargs h
theorem nm {fuel:Nat} {l:Array Bool} {a a':Act} {v:Value} {w:World} (N:Option Tmp) (h:bz P md ops Q S ds fuel l a' w) (ha:a.put N v=a':=by simp only[Act.put,List.setIfInBounds_toArray,List.set_cons_zero,List.set_cons_succ,b7,b8];rfl):bz P md ops Q S ds fuel l (a.put N v) w:=ny ha h
end
theorem eU {w:World} {g:Nat} {t:TypeId} {a b:Value} (h:w.heap[g]? =some (.cells #[a,b] t (0,0))):w.cell? ⟨g,0,none⟩=some a∧w.cell? ⟨g,1,none⟩=some b∧w.frozen? ⟨g,0,none⟩=false∧w.frozen? ⟨g,1,none⟩=false:=⟨au h 0,au h 1,aH h 0,aH h 1⟩
theorem cR {w:World} {g:Nat} {t:TypeId} {a b c d e f:Value} (h:w.heap[g]? =some (.cells #[a,b,c,d,e,f] t (0,0))):w.cell? ⟨g,0,none⟩=some a∧w.cell? ⟨g,1,none⟩=some b∧w.cell? ⟨g,2,none⟩=some c∧w.cell? ⟨g,3,none⟩=some d∧w.cell? ⟨g,4,none⟩=some e∧w.cell? ⟨g,5,none⟩=some f∧w.frozen? ⟨g,0,none⟩=false∧w.frozen? ⟨g,1,none⟩=false∧w.frozen? ⟨g,2,none⟩=false∧w.frozen? ⟨g,3,none⟩=false∧w.frozen? ⟨g,4,none⟩=false∧w.frozen? ⟨g,5,none⟩=false:=⟨au h 0,au h 1,au h 2,au h 3,au h 4,au h 5,aH h 0,aH h 1,aH h 2,aH h 3,aH h 4,aH h 5⟩
end Go.Proofs.YtmipaoobkjppdaaGreatDoorW.PrintWords
