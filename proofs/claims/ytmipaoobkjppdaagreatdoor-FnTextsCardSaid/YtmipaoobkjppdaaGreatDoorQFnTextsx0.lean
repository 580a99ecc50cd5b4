import Derived.Lib.SliceRun
import Derived.Test.YtmipaoobkjppdaaGreatDoorTabFnTexts
import Derived.Shelf.SlicesE.DeleteFunc
import Derived.Sort.OwnSortedInts
import Derived.Test.YtmipaoobkjppdaaGreatDoorLay
import Derived.Test.YtmipaoobkjppdaaGreatDoorLay2
import Derived.Shelf.Strconv.Itoa4
import Derived.Shelf.Strings.BuilderK
import Derived.Shelf.Strings.SplitShaped
import Derived.Shelf.Strconv.AtoiAll
import Derived.Shelf.Strconv.ErrVarAll
import Derived.Test.YtmipaoobkjppdaaGreatDoorFunc
import Derived.Test.YtmipaoobkjppdaaGreatDoorWEqStruct
import Derived.Test.YtmipaoobkjppdaaGreatDoorWRepsOne
import Derived.Test.YtmipaoobkjppdaaGreatDoorWInv
import Derived.Test.YtmipaoobkjppdaaGreatDoorWGuard
import Derived.Test.YtmipaoobkjppdaaGreatDoorWMore
namespace Go.Proofs.YtmipaoobkjppdaaGreatDoor.QFnTexts
open Go.RowKit Go.Proofs.YtmipaoobkjppdaaGreatDoorW 
open PrintWords PrintLast PrintMore
attribute [local go_sem] dq dr dT dU cT cU dt du
set_option linter.unusedVariables false
set_option linter.unusedSimpArgs false
def errW:Option Int→Value
 | none=>.nilIface
 | some c=>.iface 0 (.int .i64 c)
theorem aZ:errW none=.nilIface:=rfl
theorem a6 (c:Int):errW (some c)=.iface 0 (.int .i64 c):=rfl
theorem nu:(Tryz.prog.info? 9).map (fun i=>(i.zero,i.size,i.bytes))=some (some (.string ⟨#[]⟩),1,16):=by kernel_rfl
theorem kH:(Tryz.prog.info? 35).map (fun i=>(i.zero,i.size,i.bytes))=some (some (.agg #[(.int .i64 0),(.int .i64 0),(.int .i64 0),(.int .i64 0),(.int .i64 0),(.string ⟨#[]⟩)]),6,56):=by kernel_rfl
theorem kI:(Tryz.prog.info? 48).map (fun i=>(i.zero,i.size,i.bytes))=some (some (.agg #[(.string ⟨#[]⟩),(.slice none 0 0)]),2,40):=by kernel_rfl
theorem jX:(Tryz.prog.info? 52).map (fun i=>(i.zero,i.size,i.bytes))=some (some (.agg #[(.string ⟨#[]⟩),(.slice none 0 0)]),2,40):=by kernel_rfl
structure fk where
 f0:Int
 f1:Int
 f2:Int
 f3:Int
 f4:Int
 f5:ByteArray
def z35:fk:=⟨(0:Int),(0:Int),(0:Int),(0:Int),(0:Int),(⟨#[]⟩:ByteArray)⟩
def jY:Kd fk:=Kd.iso (Kd.pair (Kd.int .i64) (Kd.pair (Kd.int .i64) (Kd.pair (Kd.int .i64) (Kd.pair (Kd.int .i64) (Kd.pair (Kd.int .i64) Kd.string))))) (fun x:fk=>(x.f0,x.f1,x.f2,x.f3,x.f4,x.f5))
theorem rD {w:World} {x:fk} {cs:List Value} (h:jY.K w x cs):cs=[.int .i64 x.f0,.int .i64 x.f1,.int .i64 x.f2,.int .i64 x.f3,.int .i64 x.f4,.string x.f5]:=by
 obtain⟨_,_,rfl,rfl,⟨_,_,rfl,rfl,⟨_,_,rfl,rfl,⟨_,_,rfl,rfl,⟨_,_,rfl,rfl,rfl⟩⟩⟩⟩⟩:=h;exact rfl
theorem jz (w:World) (base:Nat) (ok:Nat→Prop) (x:fk)  :jY.M w base ok x [.int .i64 x.f0,.int .i64 x.f1,.int .i64 x.f2,.int .i64 x.f3,.int .i64 x.f4,.string x.f5]:=⟨[.int .i64 x.f0],[.int .i64 x.f1,.int .i64 x.f2,.int .i64 x.f3,.int .i64 x.f4,.string x.f5],rfl,rfl,⟨[.int .i64 x.f1],[.int .i64 x.f2,.int .i64 x.f3,.int .i64 x.f4,.string x.f5],rfl,rfl,⟨[.int .i64 x.f2],[.int .i64 x.f3,.int .i64 x.f4,.string x.f5],rfl,rfl,⟨[.int .i64 x.f3],[.int .i64 x.f4,.string x.f5],rfl,rfl,⟨[.int .i64 x.f4],[.string x.f5],rfl,rfl,rfl⟩⟩⟩⟩⟩
def bE (xs:List fk) (i:Int):fk:=xs.getD i.toNat z35
theorem mg {w:World} {A:Option Addr} {n:Nat} {xs:List fk} (h:Kd.C jY w A n xs) (i:Int) (h0:0≤i) (h1:i<n):∃ad ,A=some ad∧w.cell? (ad.add (i.toNat*6))=some (.int .i64 (bE xs i).f0)∧w.cell? ⟨(ad.add (i.toNat*6)).block,(ad.add (i.toNat*6)).off+1,none⟩=some (.int .i64 (bE xs i).f1)∧w.cell? ⟨(ad.add (i.toNat*6)).block,(ad.add (i.toNat*6)).off+2,none⟩=some (.int .i64 (bE xs i).f2)∧w.cell? ⟨(ad.add (i.toNat*6)).block,(ad.add (i.toNat*6)).off+3,none⟩=some (.int .i64 (bE xs i).f3)∧w.cell? ⟨(ad.add (i.toNat*6)).block,(ad.add (i.toNat*6)).off+4,none⟩=some (.int .i64 (bE xs i).f4)∧w.cell? ⟨(ad.add (i.toNat*6)).block,(ad.add (i.toNat*6)).off+5,none⟩=some (.string (bE xs i).f5):=by
 obtain⟨ad,c,e,_,hK,hc0⟩:=Kd.ng h z35 i h0 h1;have hc:∀j u,c[j]? =some u→w.cell? (ad.add (i.toNat*6+j))=some u:=hc0;obtain rfl:=rD hK;exact⟨ad,e,hc 0 _ rfl,by rw[←gr _ _ 1 (by omega)];exact hc 1 _ rfl,by rw[←gr _ _ 2 (by omega)];exact hc 2 _ rfl,by rw[←gr _ _ 3 (by omega)];exact hc 3 _ rfl,by rw[←gr _ _ 4 (by omega)];exact hc 4 _ rfl,by rw[←gr _ _ 5 (by omega)];exact hc 5 _ rfl⟩
structure cR where
 f0:ByteArray
 f1:(List fk)
def gl:cR:=⟨(⟨#[]⟩:ByteArray),([]:List fk)⟩
def hJ:Kd cR:=Kd.iso (Kd.pair Kd.string (Kd.slice 35 jY)) (fun x:cR=>(x.f0,x.f1))
theorem rE {w:World} {x:cR} {cs:List Value} (h:hJ.K w x cs):∃A1 c1,cs=[.string x.f0,.slice A1 x.f1.length c1]∧x.f1.length≤c1∧jY.C w A1 x.f1.length x.f1:=by
 obtain⟨_,_,rfl,rfl,⟨A1,c1,rfl,l1,g1⟩⟩:=h;exact⟨A1,c1,rfl,l1,g1⟩
theorem qC {w:World} {base:Nat} {ok:Nat→Prop} {x:cR} {cs:List Value} (h:hJ.M w base ok x cs):∃v1,cs=[.string x.f0,v1]∧jY.R 35 w base ok v1 x.f1:=by
 obtain⟨_,_,rfl,rfl,⟨v1,rfl,g1⟩⟩:=h;exact⟨v1,rfl,g1⟩
theorem k52_mk (w:World) (x:cR) {A1:Option Addr} {c1:Nat} (l1:x.f1.length≤c1) (g1:jY.C w A1 x.f1.length x.f1):hJ.K w x [.string x.f0,.slice A1 x.f1.length c1]:=⟨[.string x.f0],[.slice A1 x.f1.length c1],rfl,rfl,⟨A1,c1,rfl,l1,g1⟩⟩
theorem jA (w:World) (base:Nat) (ok:Nat→Prop) (x:cR) {v1:Value} (g1:jY.R 35 w base ok v1 x.f1):hJ.M w base ok x [.string x.f0,v1]:=⟨[.string x.f0],[v1],rfl,rfl,⟨v1,rfl,g1⟩⟩
theorem lH (W:World) (ok:Nat→Prop) (x:cR) {A1:Option Addr} {c1:Nat} (l1:x.f1.length≤c1) (g1:Kd.F jY W ok A1 x.f1.length x.f1):Kd.FK hJ W ok x [.string x.f0,.slice A1 x.f1.length c1]:=fun W2 hW=>k52_mk W2 x l1 (g1 W2 hW)
def a7 (xs:List cR) (i:Int):cR:=xs.getD i.toNat gl
theorem gA {w:World} {A:Option Addr} {n:Nat} {xs:List cR} (h:Kd.C hJ w A n xs) (i:Int) (h0:0≤i) (h1:i<n):∃ad A1 c1,A=some ad∧w.cell? (ad.add (i.toNat*2))=some (.string (a7 xs i).f0)∧w.cell? ⟨(ad.add (i.toNat*2)).block,(ad.add (i.toNat*2)).off+1,none⟩=some (.slice A1 (a7 xs i).f1.length c1)∧(a7 xs i).f1.length≤c1∧jY.C w A1 (a7 xs i).f1.length (a7 xs i).f1:=by
 obtain⟨ad,c,e,_,hK,hc0⟩:=Kd.ng h gl i h0 h1;have hc:∀j u,c[j]? =some u→w.cell? (ad.add (i.toNat*2+j))=some u:=hc0;obtain⟨A1,c1,rfl,l1,g1⟩:=rE hK;exact⟨ad,A1,c1,e,hc 0 _ rfl,by rw[←gr _ _ 1 (by omega)];exact hc 1 _ rfl,l1,g1⟩
structure b5 where
 f0:ByteArray
 f1:(List cR)
def jh:b5:=⟨(⟨#[]⟩:ByteArray),([]:List cR)⟩
def jZ:Kd b5:=Kd.iso (Kd.pair Kd.string (Kd.slice 52 hJ)) (fun x:b5=>(x.f0,x.f1))
theorem rF {w:World} {x:b5} {cs:List Value} (h:jZ.K w x cs):∃A1 c1,cs=[.string x.f0,.slice A1 x.f1.length c1]∧x.f1.length≤c1∧hJ.C w A1 x.f1.length x.f1:=by
 obtain⟨_,_,rfl,rfl,⟨A1,c1,rfl,l1,g1⟩⟩:=h;exact⟨A1,c1,rfl,l1,g1⟩
theorem k48_mk (w:World) (x:b5) {A1:Option Addr} {c1:Nat} (l1:x.f1.length≤c1) (g1:hJ.C w A1 x.f1.length x.f1):jZ.K w x [.string x.f0,.slice A1 x.f1.length c1]:=⟨[.string x.f0],[.slice A1 x.f1.length c1],rfl,rfl,⟨A1,c1,rfl,l1,g1⟩⟩
theorem k48_mkM (w:World) (base:Nat) (ok:Nat→Prop) (x:b5) {v1:Value} (g1:hJ.R 52 w base ok v1 x.f1):jZ.M w base ok x [.string x.f0,v1]:=⟨[.string x.f0],[v1],rfl,rfl,⟨v1,rfl,g1⟩⟩
theorem iz (W:World) (ok:Nat→Prop) (x:b5) {A1:Option Addr} {c1:Nat} (l1:x.f1.length≤c1) (g1:Kd.F hJ W ok A1 x.f1.length x.f1):Kd.FK jZ W ok x [.string x.f0,.slice A1 x.f1.length c1]:=fun W2 hW=>k48_mk W2 x l1 (g1 W2 hW)
def bu (xs:List b5) (i:Int):b5:=xs.getD i.toNat jh
theorem gC {w:World} {A:Option Addr} {n:Nat} {xs:List b5} (h:Kd.C jZ w A n xs) (i:Int) (h0:0≤i) (h1:i<n):∃ad A1 c1,A=some ad∧w.cell? (ad.add (i.toNat*2))=some (.string (bu xs i).f0)∧w.cell? ⟨(ad.add (i.toNat*2)).block,(ad.add (i.toNat*2)).off+1,none⟩=some (.slice A1 (bu xs i).f1.length c1)∧(bu xs i).f1.length≤c1∧hJ.C w A1 (bu xs i).f1.length (bu xs i).f1:=by
 obtain⟨ad,c,e,_,hK,hc0⟩:=Kd.ng h jh i h0 h1;have hc:∀j u,c[j]? =some u→w.cell? (ad.add (i.toNat*2+j))=some u:=hc0;obtain⟨A1,c1,rfl,l1,g1⟩:=rF hK;exact⟨ad,A1,c1,e,hc 0 _ rfl,by rw[←gr _ _ 1 (by omega)];exact hc 1 _ rfl,l1,g1⟩
end Go.Proofs.YtmipaoobkjppdaaGreatDoor.QFnTexts
set_option linter.unusedVariables false
namespace Go.Proofs.YtmipaoobkjppdaaGreatDoorW.PrintWords
open Go.RowKit
theorem aa {p:Prop} (h:p):Aside0 p:=⟨h⟩
theorem cq {α:Type} {a b:α} (h:some a=some b):a=b:=Option.some.inj h
theorem eD {α β:Type} {o:Option α} {f:α→Option β} {b:β} (h:o.bind f=some b):∃a,o=some a∧f a=some b:=Option.bind_eq_some_iff.mp h
theorem dn {α β:Type} (a:α) (f:α→Option β):(some a).bind f=f a:=rfl
theorem ea {α:Type} [BEq α] [LawfulBEq α] {a b:α} (h:a≠b):(a==b)=false:=beq_eq_false_iff_ne.mpr h
theorem fa {α:Type} [BEq α] [LawfulBEq α] {a b:α} (h:a=b):(a !=b)=false:=bne_eq_false_iff_eq.mpr h
theorem eQ {α:Type} [BEq α] [LawfulBEq α] {a b:α} (h:a=b):(a==b)=true:=beq_iff_eq.mpr h
theorem fc {α:Type} [BEq α] [LawfulBEq α] {a b:α} (h:a≠b):(a !=b)=true:=bne_iff_ne.mpr h
theorem fy {b:Bool} (h:¬b=true):b=false:=Bool.eq_false_iff.mpr h
theorem cH {p:Prop} [i:Decidable p] (h:p):decide p=true:=decide_eq_true h
theorem cW {p:Prop} [i:Decidable p] (h:¬p):decide p=false:=decide_eq_false h
theorem bl {b:Nat} {w w1 w':World} (H:Aside0 (Below b w w1)) (h:Below b w w':=by repeat(first|(with_reducible first|exact HB.out|apply bC|apply cZ|apply cG|refine ah ?_ (Aside0.out (by with_reducible assumption))|refine ah ?_ (ai.ge (Aside0.out (by with_reducible assumption))))|exact HB.out)):Below b w w':=h
theorem b4 {w0 w1 w2:World} {g:Nat} {r:Option Nat} (H:Aside0 (af w0 w1 g r)) (h:af w0 w2 g r:=by repeat(first|(with_reducible first|exact HK.out|apply af.set_|apply pd|apply gu|apply pe|refine rk ?_ (Aside0.out (by with_reducible assumption)) _)|exact HK.out)):af w0 w2 g r:=h
theorem bM {p:Prop} (h:p:=by repeat(first|(with_reducible first|exact Aside0.out (by with_reducible assumption)|apply ai.alloc|apply ai.drewN|apply ai.drew|apply ai.set_1|apply ai.set_2|refine ai.far ?_ (Aside0.out (by with_reducible assumption)) _)|exact Aside0.out (by assumption))):p:=h
theorem dZ {q p:Prop} (H:Aside0 q) (f:q→p:=by intro h_;(with_reducible repeat(first|apply Kd.di|apply Kd.dj|apply Kd.dF));exact h_):p:=f H.out
theorem fb {q p:Prop} (H:Aside0 q) (f:q→p:=by intro h_;(with_reducible repeat(first|apply Kd.dC|apply Kd.dD|apply Kd.dm));exact h_):p:=f H.out
theorem kSx {q p:Prop} (H:Aside0 q) (f:q→p:=by intro h_;(with_reducible repeat(first|apply Kd.lC|apply Kd.lD|apply Kd.kG));exact h_):p:=f H.out
theorem fw {q p:Prop} (h:q) (f:q→p:=by intro h_;repeat(first|exact h_|(with_reducible refine Kd.C_alloc ?_ _)|(with_reducible refine Kd.C_drewN ?_ _)|(with_reducible refine Kd.C_drew ?_))):p:=f h
theorem cw {w W0 W w2:World} (H:Aside0 (Below w.heap.size w W0)) (k:Below W.heap.size W w2) (h:Below w.heap.size w W:=by exact bl HB):Aside0 (Below w.heap.size w w2):=⟨aX h k⟩
theorem fx {w W0 W:World} {g:Nat} (H:Aside0 (Below w.heap.size w W0)) (hg:g=W.heap.size) (h:Below w.heap.size w W:=by exact bl HB):Aside0 (w.heap.size≤g):=⟨hg▸ar h⟩
theorem blkl {w:World} {g:Nat} {t:TypeId} {l l':List Value} (h:w.heap[g]? =some (.cells l.toArray t (0,0))) (i:Nat) (u:Value) (e:l.set i u=l'):(w.setCell ⟨g,i,none⟩ u).heap[g]? =some (.cells l'.toArray t (0,0)):=au h i u (by rw[List.setIfInBounds_toArray,e])
theorem bk {q p:Prop} (H:Aside0 q) (f:q→p:=by intro h_;(with_reducible repeat(first|refine kC ?_ _|refine dR ?_|refine eL ?_ _));exact h_):p:=f H.out
theorem eH {q p:Prop} (H:Aside0 q) (f:q→p:=by intro h_;(repeat(with_reducible first|exact h_|refine kC ?_ _|refine dR ?_|refine eL ?_ _|refine fu ?_ (Aside0.out (by with_reducible assumption)) _|apply blkl));all_goals exact rfl):p:=f H.out
theorem er {w0 w w1:World} {g:Nat} {o:Obj} (H:Aside0 (w0.heap[g]? =some o)) (hb:Below w.heap.size w w1) (f:w0.heap[g]? =some o→w.heap[g]? =some o:=by intro h_;(with_reducible repeat(first|refine kC ?_ _|refine dR ?_|refine eL ?_ _));exact h_):Aside0 (w1.heap[g]? =some o):=⟨aV (f H.out) hb⟩
theorem eN {P:Program} {ops:Array Oper} {rest:List Oper} {o:Oper} {a:Act} {Q:Exit→Act→World→Prop} {W:World} (N:Tmp) (cs:Array Value) (t:TypeId) (h:∀g,g=W.heap.size→∀w1,w1.heap[g]? =some (.cells cs t (0,0))→Below W.heap.size W w1→wpList P ops Q rest (a.put o.dst (.pointer (some ⟨g,0,none⟩))) w1) (hd:o.dst=some N:=by exact rfl) (hgd:o.guard=none:=by exact rfl)
    (hrun:(execOp a.eval o).run P W=.ok (.value (.pointer (some ⟨W.heap.size,0,none⟩))) (W.alloc (.cells cs t (0,0))):=by first|(go_simp;done)|(go_simp;rfl)):wpList P ops Q (o::rest) a W:=dI hgd hd hrun h
theorem dW {α β:Type} {o:Option α} {f:α→Option β} {r:β} (H:o.bind f=some r):∃a,Aside0 (o=some a)∧f a=some r:=by
  obtain⟨a,h1,h2⟩:=Option.bind_eq_some_iff.mp H;exact⟨a,⟨h1⟩,h2⟩
theorem cf {P:Program} {ops:Array Oper} {Q:Exit→Act→World→Prop} {rest:List Oper} {oi:Oper} {a:Act} {w:World} {f:FuncId} {fn:Func} {ops':Array Operand} {ts:Array TypeId} (N:Option Tmp) (hf:P.funcs[f]? =some fn) (args:Array Value) (h:Calls P f args w fun e w'=>∃v,e=.returned v∧wpList P ops Q rest (a.put N v) w') (hd:oi.dst=N:=by exact rfl) (hg:oi.guard=none:=by exact rfl) (hname:(fn.name== "runtime.NumGoroutine")=false:=by kernel_rfl) (hb:fn.body.isSome=true:=by exact rfl) (hop:oi.op=.call { callee:=.value (.func f),args:=ops',argTypes:=ts }:=by exact rfl) (hargs:ops'.map a.eval=args:=by(try simp only[List.map_toArray,List.map_cons,List.map_nil]);first|done|rfl|(simp only[List.length_drop,List.length_take];rfl)):wpList P ops Q (oi::rest) a w:=PrintLast.goesL_ N hd hg hf hname hb args hop hargs h
theorem fo {w w':World} {p:Addr} {v:Value} (H:Aside0 (Below w.heap.size w w')) (h:w.cell? p=some v):w'.cell? p=some v:=(H.out.cell (World.block_lt_of_cell? w _ h)).trans h
theorem eb {p:Prop} [Decidable p] (h:decide p=true:=by first|(with_reducible assumption)|assumption):p:=of_decide_eq_true h
theorem dL {p:Prop} {w w':World} (h:p:=by first|rfl|(simp[aZ,a6]<;>rfl)|(simp[*,aZ,a6]<;>rfl)) (k:Below w.heap.size w w':=by exact bl HB):p∧Below w.heap.size w w':=⟨h,k⟩
theorem mV {p:Prop} {w w':World} (h:p:=by first|rfl|(simp;done)) (k:Below w.heap.size w w':=by exact bl HB):p∧Below w.heap.size w w':=⟨h,k⟩
theorem jF {α:Type} {a:α} {l:List α} {b:α}:(a::l).set 0 b=b::l:=List.set_cons_zero
theorem jG {α:Type} {a:α} {l:List α} {n:Nat} {b:α}:(a::l).set (n+1) b=a::l.set n b:=List.set_cons_succ
theorem jH {α:Type} (l:List α) (i:Nat) (x:α):l.toArray.setIfInBounds i x=(l.set i x).toArray:=List.setIfInBounds_toArray ..
section
open PrintLast
variable {P:Program} {ops:Array Oper} {Q:Exit→Act→World→Prop} {md:Region.Mode} {S:World→Prop} {ds:List Nat}
theorem pu {i fuel:Nat} {N:Option Tmp} {oi:Oper} {v:Value} {l l':Array Bool} {a a':Act} {w:World} (hc:rl md ops l l' i=true) (h:bR P md ops Q S ds fuel l' a' w)
    (hi:ops[i]? =some oi:=by exact rfl) (hN:oi.dst=N:=by exact rfl) (hQ:∀c a w,Q (.panic c) (a.put oi.dst v) w→Q (.panic c) a w:=by exact fun _ _ _ h=>h)
    (hy:Yields P ops oi v a:=by refine Or.inl ⟨by rfl,?_⟩;intro w';go_simp;with_reducible rfl)
    (ha:a.put N v=a':=by simp only[Act.put,List.setIfInBounds_toArray,List.set_cons_zero,List.set_cons_succ,df,dh];rfl):bR P md ops Q S ds (fuel+1) l a w:=kY l' hi hN hc hQ hy ha h
theorem iT {i fuel:Nat} {N:Option Tmp} {oi:Oper} {l l':Array Bool} {a:Act} {w:World} (hc:jT md ops l l' i=true) (h:∀K:Act→World→Prop,Shut (∀a' w',S w'→(S w'→bR P md ops Q S ds fuel l' a' w')→K a' w')→if Region.wanted oi (yielded ops a.tmps)=true then Oper.wp P oi a w K Q else K (a.put N undef) w)
    (hi:ops[i]? =some oi:=by exact rfl) (hN:oi.dst=N:=by exact rfl) (hd:i∉ds:=by decide):bR P md ops Q S ds (fuel+1) l a w:=one_ l' hi hN hc hd h
theorem po {oi:Oper} {N:Option Tmp} {a:Act} {w:World} {K:Act→World→Prop} {f:FuncId} {fn:Func} {ops':Array Operand} {ts:Array TypeId} (hf:P.funcs[f]? =some fn) (args:Array Value) (h:Calls P f args w fun e w'=>∃v,e=.returned v∧K (a.put N v) w') (hname:(fn.name== "runtime.NumGoroutine")=false:=by kernel_rfl) (hb:fn.body.isSome=true:=by exact rfl)
    (hw:Region.wanted oi (yielded ops a.tmps)=true:=by rfl) (hN:oi.dst=N:=by exact rfl) (hop:oi.op=.call { callee:=.value (.func f),args:=ops',argTypes:=ts }:=by exact rfl) (hargs:ops'.map a.eval=args:=by(try simp only[List.map_toArray,List.map_cons,List.map_nil]);first|done|rfl|(simp only[List.length_drop,List.length_take];rfl)):if Region.wanted oi (yielded ops a.tmps)=true then Oper.wp P oi a w K Q else K (a.put N undef) w:=goes_ hf hname hb args hw hN hop hargs h
theorem nm {fuel:Nat} {l:Array Bool} {a a':Act} {v:Value} {w:World} (N:Option Tmp) (h:bR P md ops Q S ds fuel l a' w) (ha:a.put N v=a':=by simp only[Act.put,List.setIfInBounds_toArray,List.set_cons_zero,List.set_cons_succ,df,dh];rfl):bR P md ops Q S ds fuel l (a.put N v) w:=pQ ha h
end
theorem fR {w:World} {g:Nat} {t:TypeId} {a b:Value} (h:w.heap[g]? =some (.cells #[a,b] t (0,0))):w.cell? ⟨g,0,none⟩=some a∧w.cell? ⟨g,1,none⟩=some b∧w.frozen? ⟨g,0,none⟩=false∧w.frozen? ⟨g,1,none⟩=false:=⟨aj h 0,aj h 1,aI h 0,aI h 1⟩
theorem dp {w:World} {g:Nat} {t:TypeId} {a b c d e f:Value} (h:w.heap[g]? =some (.cells #[a,b,c,d,e,f] t (0,0))):w.cell? ⟨g,0,none⟩=some a∧w.cell? ⟨g,1,none⟩=some b∧w.cell? ⟨g,2,none⟩=some c∧w.cell? ⟨g,3,none⟩=some d∧w.cell? ⟨g,4,none⟩=some e∧w.cell? ⟨g,5,none⟩=some f∧w.frozen? ⟨g,0,none⟩=false∧w.frozen? ⟨g,1,none⟩=false∧w.frozen? ⟨g,2,none⟩=false∧w.frozen? ⟨g,3,none⟩=false∧w.frozen? ⟨g,4,none⟩=false∧w.frozen? ⟨g,5,none⟩=false:=⟨aj h 0,aj h 1,aj h 2,aj h 3,aj h 4,aj h 5,aI h 0,aI h 1,aI h 2,aI h 3,aI h 4,aI h 5⟩
end Go.Proofs.YtmipaoobkjppdaaGreatDoorW.PrintWords
