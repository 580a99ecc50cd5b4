/- What the row of FnTexts lists of the package-level variables, as facts of a world that last; a world that holds them. -/
import Derived.Test.YtmipaoobkjppdaaGreatDoorRows
import Derived.Lib.LaidTab
import Derived.Stop.LaidErr
import Derived.LaidLaws
import Derived.MakeChecks
import Derived.Below
import Derived.WalkKit
import Derived.Lib.ItoaNum
import Derived.Shelf.Vars
set_option maxRecDepth 100000
set_option linter.unusedVariables false
namespace Go.Proofs.YtmipaoobkjppdaaGreatDoor.TabFnTexts
open Go.RowKit Go.ChangeShapes
theorem var_lt {P:Program} {w:World} {n:String} {g:Nat} {cs:Array Value} (hg:P.globalNamed n=some g) (h:w.var? P n=some cs):g<w.heap.size:=by
 unfold World.var? at h;simp only[hg,Option.bind_some]at h
 rcases Nat.lt_or_ge g w.heap.size with h'|h'
 ·exact h'
 ·simp[Array.getElem?_eq_none h']at h
theorem iF {P:Program} {w w':World} {n:String} {g:Nat} {cs:Array Value} (hg:P.globalNamed n=some g) (hb:Below w.heap.size w w') (h:w.var? P n=some cs):w'.var? P n=some cs:=by
 have hl:=var_lt hg h;unfold World.var? at h ⊢;simp only[hg,Option.bind_some]at h ⊢;rw[hb.block g hl];exact h
def ly {H:Type} (zs:List (List UInt8)):DataW H:=.agg (zs.map fun z=>.lit (.string z))
theorem mW {H:Type} {enc:TypeId×Value→H} {P:Program} {w:World} {base:Nat} {sp:Nat→Bool} {held:Bool} {fuel:Nat} {t e:TypeId} {n:Nat} {cs:List Value} {zs:List (List UInt8)} {p:List MemPlace}
  (ht:P.underlying t=some (.array n e)) (he:P.underlying e=some .string) (hce:P.cellsOf e=1) (hct:P.cellsOf t=n)
  (h:DataW.trod enc P w base sp held fuel t cs=some (ly zs,p)):cs=zs.map fun z=>Value.string ⟨z.toArray⟩:=by
 cases fuel with
 | zero=>simp[DataW.trod]at h
 | succ fuel =>
  simp only[DataW.trod,ht,hce,hct,Nat.mul_one]at h
  split at h
  ·rename_i hl
   obtain⟨xs,hm,hx⟩:=Option.map_eq_some_iff.1 h
   have hxs:xs.map (·.1)=zs.map fun z=>(DataW.lit (.string z):DataW H):=by
    have:=congrArg Prod.fst hx
    simpa [ly] using this
   have hxl:xs.length=n:=by simpa using Lib.mapM_length hm
   have hzl:zs.length=n:=by
    have:=congrArg List.length hxs;simp at this;omega
   apply List.ext_getElem?;intro i;by_cases hi:i<n
   ·obtain⟨b,hb,hf⟩:=Lib.mapM_at hm i i (by simp[hi]);obtain⟨z,hc,rfl,_⟩:=DataW.trod_string he hf
    have h1:cs[i]? =some (.string z):=by
     have:=congrArg (·[0]?) hc
     simpa [List.getElem?_take,List.getElem?_drop] using this
    have h2:(xs.map (·.1))[i]? =some (DataW.lit (.string z.data.toList):DataW H):=by simp[hb]
    rw[hxs]at h2;simp only[List.getElem?_map,Option.map_eq_some_iff,DataW.lit.injEq,Lit.string.injEq]at h2;obtain⟨z',hz',e⟩:=h2;rw[h1,List.getElem?_map,hz'];subst e;rfl
   ·rw[List.getElem?_eq_none (by omega),List.getElem?_eq_none (by simp;omega)]
  ·cases h
theorem nL {P:Program} {W:World} {name:String} {zs:List (List UInt8)} {rest:List (String×DataW Unit)} {g:Nat} {t e:TypeId} {n:Nat}
  (hg:P.globalNamed name=some g) (hty:(P.globals[g]?).map (·.type)=some t) (ht:P.underlying t=some (.array n e)) (he:P.underlying e=some .string) (hce:P.cellsOf e=1) (hct:P.cellsOf t=n)
  (h:laidMet P ((name,ly zs)::rest) W):W.var? P name=some (zs.map fun z=>Value.string ⟨z.toArray⟩).toArray:=by
 obtain⟨ps,⟨g',t',cs,fuel,p,q,hg',ht',hvar,hd,_,_⟩,_⟩:=h;obtain rfl:=Option.some.inj (hg.symm.trans hg');obtain rfl:=Option.some.inj (hty.symm.trans ht');rw[hvar,←mW ht he hce hct hd]
theorem star: "*" ++ "errors.errorString" = "*errors.errorString" := by decide
theorem qT (u:TypeId) (h:Tryz.prog.typeName? 3 u=some "*errors.errorString"):u=139 :=
 typeName_ptr_named (nm:= "errors.errorString") (by rw[star];kernel_rfl) (by kernel_rfl) (by decide) u (by rw[star];exact h)
structure iG (w:World):Prop where
 pow10:Lib.TabIs Tryz.prog w "internal/strconv.uint64pow10" .u64 Lib.pow10Tab
 errRange:∃(tp:TypeId) (p:Value),w.var? Tryz.prog "strconv.ErrRange" = some #[.iface tp p]
 errSyntax:∃(tp:TypeId) (p:Value),w.var? Tryz.prog "strconv.ErrSyntax" = some #[.iface tp p]
 opNames:w.var? Tryz.prog "loop.example/g00591/impl.opNames" = some (([[],[99,111,110,115,116],[97,114,103],[115,108,111,116],[115,101,108,102],[97,100,100],[115,101,110,100],[110,101,119],[115,101,116],[115,107,105,112],[114,101,116,117,114,110]]:List (List UInt8)).map fun s=>Value.string ⟨s.toArray⟩).toArray
 maxLen:∃m,w.cell? ⟨1,0,none⟩=some (.int .i64 m)
theorem iG.below {w w':World} (h:iG w) (hb:Below w.heap.size w w'):iG w' :=
 ⟨iF (g:=6) (by kernel_rfl) hb h.pow10,(by obtain⟨tp,p,e⟩:=h.errRange;exact⟨tp,p,iF (g:=3) (by kernel_rfl) hb e⟩),(by obtain⟨tp,p,e⟩:=h.errSyntax;exact⟨tp,p,iF (g:=2) (by kernel_rfl) hb e⟩),iF (g:=0) (by kernel_rfl) hb h.opNames,(by obtain⟨m,e⟩:=h.maxLen;exact⟨m,(hb.cell (World.block_lt_of_cell? _ _ e)).trans e⟩)⟩
theorem tabs_of {W:World} (hh:laidMetH Tryz.prog Rows.fnTextsRow.laid W) (hsh:W.ShapedOpen Tryz.prog):iG W:=by
 have h:laidMet Tryz.prog Rows.fnTextsRow.laid W:=(Go.MakeChecks.laidMetH_plain _ _ _ (by kernel_rfl))▸hh
 exact⟨Lib.tabIs_of_head (g:=6) (t:=157) (e:=127) (n:=20) (by kernel_rfl) (by kernel_rfl) Tryz.underlying157 Tryz.underlying127 (by kernel_rfl) (by kernel_rfl) (show laidMet _ ((_,Lib.tabData .u64 Lib.pow10Tab)::_) _ from h.tail.tail),
  (by obtain⟨a,s,e,_⟩:=laid_sentinel (h.tail.tail.tail.tail) (g:=3) (ti:=67) (tp:=139) (te:=141) (ts:=9) (by kernel_rfl) (by kernel_rfl) Tryz.underlying67 qT Tryz.underlying139 Tryz.underlying141 rfl rfl Tryz.underlying9 (by kernel_rfl) (by kernel_rfl);exact⟨_,_,e⟩),
  (by obtain⟨a,s,e,_⟩:=laid_sentinel (h.tail.tail.tail.tail.tail) (g:=2) (ti:=67) (tp:=139) (te:=141) (ts:=9) (by kernel_rfl) (by kernel_rfl) Tryz.underlying67 qT Tryz.underlying139 Tryz.underlying141 rfl rfl Tryz.underlying9 (by kernel_rfl) (by kernel_rfl);exact⟨_,_,e⟩),
  nL (g:=0) (t:=78) (e:=9) (n:=11) (by kernel_rfl) (by kernel_rfl) Tryz.underlying78 Tryz.underlying9 (by kernel_rfl) (by kernel_rfl) (show laidMet _ ((_,ly [[],[99,111,110,115,116],[97,114,103],[115,108,111,116],[115,101,108,102],[97,100,100],[115,101,110,100],[110,101,119],[115,101,116],[115,107,105,112],[114,101,116,117,114,110]])::_) _ from h.tail.tail.tail.tail.tail.tail),
  cell_of_shapedOpen_int (g:=1) (t:=3) (zero:=#[.int .i64 0]) hsh (of_decide_eq_true (by kernel_rfl)) (by kernel_rfl) rfl (by kernel_rfl) (by kernel_rfl) Tryz.underlying3⟩
noncomputable def low:Nat:=(World.holding Tryz.prog default ⟨#[],#[],[]⟩).heap.size
noncomputable def laidWorld (os:Os):World :=
 let w0:=World.holding Tryz.prog os ⟨#[.cells #[.string ⟨#[118,97,108,117,101,32,111,117,116,32,111,102,32,114,97,110,103,101]⟩] 141,.cells #[.string ⟨#[105,110,118,97,108,105,100,32,115,121,110,116,97,120]⟩] 141],#[],[]⟩
 { w0 with heap:=((((((((w0.heap).modify 7 fun
   | .cells _ t frozen=>.cells #[.int .u8 0,.int .u8 1,.int .u8 28,.int .u8 2,.int .u8 29,.int .u8 14,.int .u8 24,.int .u8 3,.int .u8 30,.int .u8 22,.int .u8 20,.int .u8 15,.int .u8 25,.int .u8 17,.int .u8 4,.int .u8 8,.int .u8 31,.int .u8 27,.int .u8 13,.int .u8 23,.int .u8 21,.int .u8 19,.int .u8 16,.int .u8 7,.int .u8 26,.int .u8 12,.int .u8 18,.int .u8 6,.int .u8 11,.int .u8 5,.int .u8 10,.int .u8 9] t frozen
   | o=>o).modify 8 fun
   | .cells _ t frozen=>.cells #[.int .u8 0,.int .u8 1,.int .u8 56,.int .u8 2,.int .u8 57,.int .u8 49,.int .u8 28,.int .u8 3,.int .u8 61,.int .u8 58,.int .u8 42,.int .u8 50,.int .u8 38,.int .u8 29,.int .u8 17,.int .u8 4,.int .u8 62,.int .u8 47,.int .u8 59,.int .u8 36,.int .u8 45,.int .u8 43,.int .u8 51,.int .u8 22,.int .u8 53,.int .u8 39,.int .u8 33,.int .u8 30,.int .u8 24,.int .u8 18,.int .u8 12,.int .u8 5,.int .u8 63,.int .u8 55,.int .u8 48,.int .u8 27,.int .u8 60,.int .u8 41,.int .u8 37,.int .u8 16,.int .u8 46,.int .u8 35,.int .u8 44,.int .u8 21,.int .u8 52,.int .u8 32,.int .u8 23,.int .u8 11,.int .u8 54,.int .u8 26,.int .u8 40,.int .u8 15,.int .u8 34,.int .u8 20,.int .u8 31,.int .u8 10,.int .u8 25,.int .u8 14,.int .u8 19,.int .u8 9,.int .u8 13,.int .u8 8,.int .u8 7,.int .u8 6] t frozen
   | o=>o).modify 6 fun
   | .cells _ t frozen=>.cells #[.int .u64 1,.int .u64 10,.int .u64 100,.int .u64 1000,.int .u64 10000,.int .u64 100000,.int .u64 1000000,.int .u64 10000000,.int .u64 100000000,.int .u64 1000000000,.int .u64 10000000000,.int .u64 100000000000,.int .u64 1000000000000,.int .u64 10000000000000,.int .u64 100000000000000,.int .u64 1000000000000000,.int .u64 10000000000000000,.int .u64 100000000000000000,.int .u64 1000000000000000000,.int .u64 10000000000000000000] t frozen
   | o=>o).modify 5 fun
   | .cells _ t frozen=>.cells #[.int .u8 128,.int .u8 191,.int .u8 160,.int .u8 191,.int .u8 128,.int .u8 159,.int .u8 144,.int .u8 191,.int .u8 128,.int .u8 143,.int .u8 0,.int .u8 0,.int .u8 0,.int .u8 0,.int .u8 0,.int .u8 0,.int .u8 0,.int .u8 0,.int .u8 0,.int .u8 0,.int .u8 0,.int .u8 0,.int .u8 0,.int .u8 0,.int .u8 0,.int .u8 0,.int .u8 0,.int .u8 0,.int .u8 0,.int .u8 0,.int .u8 0,.int .u8 0] t frozen
   | o=>o).modify 3 fun
   | .cells _ t frozen=>.cells #[.iface 139 (.pointer (some ⟨low+0,0,none⟩))] t frozen
   | o=>o).modify 2 fun
   | .cells _ t frozen=>.cells #[.iface 139 (.pointer (some ⟨low+1,0,none⟩))] t frozen
   | o=>o).modify 0 fun
   | .cells _ t frozen=>.cells #[.string ⟨#[]⟩,.string ⟨#[99,111,110,115,116]⟩,.string ⟨#[97,114,103]⟩,.string ⟨#[115,108,111,116]⟩,.string ⟨#[115,101,108,102]⟩,.string ⟨#[97,100,100]⟩,.string ⟨#[115,101,110,100]⟩,.string ⟨#[110,101,119]⟩,.string ⟨#[115,101,116]⟩,.string ⟨#[115,107,105,112]⟩,.string ⟨#[114,101,116,117,114,110]⟩] t frozen
   | o=>o).modify 4 fun
   | .cells _ t frozen=>.cells #[.int .u8 240,.int .u8 240,.int .u8 240,.int .u8 240,.int .u8 240,.int .u8 240,.int .u8 240,.int .u8 240,.int .u8 240,.int .u8 240,.int .u8 240,.int .u8 240,.int .u8 240,.int .u8 240,.int .u8 240,.int .u8 240,.int .u8 240,.int .u8 240,.int .u8 240,.int .u8 240,.int .u8 240,.int .u8 240,.int .u8 240,.int .u8 240,.int .u8 240,.int .u8 240,.int .u8 240,.int .u8 240,.int .u8 240,.int .u8 240,.int .u8 240,.int .u8 240,.int .u8 240,.int .u8 240,.int .u8 240,.int .u8 240,.int .u8 240,.int .u8 240,.int .u8 240,.int .u8 240,.int .u8 240,.int .u8 240,.int .u8 240,.int .u8 240,.int .u8 240,.int .u8 240,.int .u8 240,.int .u8 240,.int .u8 240,.int .u8 240,.int .u8 240,.int .u8 240,.int .u8 240,.int .u8 240,.int .u8 240,.int .u8 240,.int .u8 240,.int .u8 240,.int .u8 240,.int .u8 240,.int .u8 240,.int .u8 240,.int .u8 240,.int .u8 240,.int .u8 240,.int .u8 240,.int .u8 240,.int .u8 240,.int .u8 240,.int .u8 240,.int .u8 240,.int .u8 240,.int .u8 240,.int .u8 240,.int .u8 240,.int .u8 240,.int .u8 240,.int .u8 240,.int .u8 240,.int .u8 240,.int .u8 240,.int .u8 240,.int .u8 240,.int .u8 240,.int .u8 240,.int .u8 240,.int .u8 240,.int .u8 240,.int .u8 240,.int .u8 240,.int .u8 240,.int .u8 240,.int .u8 240,.int .u8 240,.int .u8 240,.int .u8 240,.int .u8 240,.int .u8 240,.int .u8 240,.int .u8 240,.int .u8 240,.int .u8 240,.int .u8 240,.int .u8 240,.int .u8 240,.int .u8 240,.int .u8 240,.int .u8 240,.int .u8 240,.int .u8 240,.int .u8 240,.int .u8 240,.int .u8 240,.int .u8 240,.int .u8 240,.int .u8 240,.int .u8 240,.int .u8 240,.int .u8 240,.int .u8 240,.int .u8 240,.int .u8 240,.int .u8 240,.int .u8 240,.int .u8 240,.int .u8 240,.int .u8 240,.int .u8 240,.int .u8 241,.int .u8 241,.int .u8 241,.int .u8 241,.int .u8 241,.int .u8 241,.int .u8 241,.int .u8 241,.int .u8 241,.int .u8 241,.int .u8 241,.int .u8 241,.int .u8 241,.int .u8 241,.int .u8 241,.int .u8 241,.int .u8 241,.int .u8 241,.int .u8 241,.int .u8 241,.int .u8 241,.int .u8 241,.int .u8 241,.int .u8 241,.int .u8 241,.int .u8 241,.int .u8 241,.int .u8 241,.int .u8 241,.int .u8 241,.int .u8 241,.int .u8 241,.int .u8 241,.int .u8 241,.int .u8 241,.int .u8 241,.int .u8 241,.int .u8 241,.int .u8 241,.int .u8 241,.int .u8 241,.int .u8 241,.int .u8 241,.int .u8 241,.int .u8 241,.int .u8 241,.int .u8 241,.int .u8 241,.int .u8 241,.int .u8 241,.int .u8 241,.int .u8 241,.int .u8 241,.int .u8 241,.int .u8 241,.int .u8 241,.int .u8 241,.int .u8 241,.int .u8 241,.int .u8 241,.int .u8 241,.int .u8 241,.int .u8 241,.int .u8 241,.int .u8 241,.int .u8 241,.int .u8 2,.int .u8 2,.int .u8 2,.int .u8 2,.int .u8 2,.int .u8 2,.int .u8 2,.int .u8 2,.int .u8 2,.int .u8 2,.int .u8 2,.int .u8 2,.int .u8 2,.int .u8 2,.int .u8 2,.int .u8 2,.int .u8 2,.int .u8 2,.int .u8 2,.int .u8 2,.int .u8 2,.int .u8 2,.int .u8 2,.int .u8 2,.int .u8 2,.int .u8 2,.int .u8 2,.int .u8 2,.int .u8 2,.int .u8 2,.int .u8 19,.int .u8 3,.int .u8 3,.int .u8 3,.int .u8 3,.int .u8 3,.int .u8 3,.int .u8 3,.int .u8 3,.int .u8 3,.int .u8 3,.int .u8 3,.int .u8 3,.int .u8 35,.int .u8 3,.int .u8 3,.int .u8 52,.int .u8 4,.int .u8 4,.int .u8 4,.int .u8 68,.int .u8 241,.int .u8 241,.int .u8 241,.int .u8 241,.int .u8 241,.int .u8 241,.int .u8 241,.int .u8 241,.int .u8 241,.int .u8 241,.int .u8 241] t frozen
   | o=>o }
theorem qU (os:Os) (args:Array Value):laidMet Tryz.prog Rows.fnTextsRow.laid ((laidWorld os).forCall (fun _ _=>0) ⟨#[],args,[]⟩).memory :=
 laidMet_of_run (ps:=[.cell 7 0,.cell 7 1,.cell 7 2,.cell 7 3,.cell 7 4,.cell 7 5,.cell 7 6,.cell 7 7,.cell 7 8,.cell 7 9,.cell 7 10,.cell 7 11,.cell 7 12,.cell 7 13,.cell 7 14,.cell 7 15,.cell 7 16,.cell 7 17,.cell 7 18,.cell 7 19,.cell 7 20,.cell 7 21,.cell 7 22,.cell 7 23,.cell 7 24,.cell 7 25,.cell 7 26,.cell 7 27,.cell 7 28,.cell 7 29,.cell 7 30,.cell 7 31,.cell 8 0,.cell 8 1,.cell 8 2,.cell 8 3,.cell 8 4,.cell 8 5,.cell 8 6,.cell 8 7,.cell 8 8,.cell 8 9,.cell 8 10,.cell 8 11,.cell 8 12,.cell 8 13,.cell 8 14,.cell 8 15,.cell 8 16,.cell 8 17,.cell 8 18,.cell 8 19,.cell 8 20,.cell 8 21,.cell 8 22,.cell 8 23,.cell 8 24,.cell 8 25,.cell 8 26,.cell 8 27,.cell 8 28,.cell 8 29,.cell 8 30,.cell 8 31,.cell 8 32,.cell 8 33,.cell 8 34,.cell 8 35,.cell 8 36,.cell 8 37,.cell 8 38,.cell 8 39,.cell 8 40,.cell 8 41,.cell 8 42,.cell 8 43,.cell 8 44,.cell 8 45,.cell 8 46,.cell 8 47,.cell 8 48,.cell 8 49,.cell 8 50,.cell 8 51,.cell 8 52,.cell 8 53,.cell 8 54,.cell 8 55,.cell 8 56,.cell 8 57,.cell 8 58,.cell 8 59,.cell 8 60,.cell 8 61,.cell 8 62,.cell 8 63,.cell 6 0,.cell 6 1,.cell 6 2,.cell 6 3,.cell 6 4,.cell 6 5,.cell 6 6,.cell 6 7,.cell 6 8,.cell 6 9,.cell 6 10,.cell 6 11,.cell 6 12,.cell 6 13,.cell 6 14,.cell 6 15,.cell 6 16,.cell 6 17,.cell 6 18,.cell 6 19,.cell 5 0,.cell 5 1,.cell 5 2,.cell 5 3,.cell 5 4,.cell 5 5,.cell 5 6,.cell 5 7,.cell 5 8,.cell 5 9,.cell 5 10,.cell 5 11,.cell 5 12,.cell 5 13,.cell 5 14,.cell 5 15,.cell 5 16,.cell 5 17,.cell 5 18,.cell 5 19,.cell 5 20,.cell 5 21,.cell 5 22,.cell 5 23,.cell 5 24,.cell 5 25,.cell 5 26,.cell 5 27,.cell 5 28,.cell 5 29,.cell 5 30,.cell 5 31,.cell 3 0,.cell (low+0) 0,.cell 2 0,.cell (low+1) 0,.cell 0 0,.cell 0 1,.cell 0 2,.cell 0 3,.cell 0 4,.cell 0 5,.cell 0 6,.cell 0 7,.cell 0 8,.cell 0 9,.cell 0 10,.cell 4 0,.cell 4 1,.cell 4 2,.cell 4 3,.cell 4 4,.cell 4 5,.cell 4 6,.cell 4 7,.cell 4 8,.cell 4 9,.cell 4 10,.cell 4 11,.cell 4 12,.cell 4 13,.cell 4 14,.cell 4 15,.cell 4 16,.cell 4 17,.cell 4 18,.cell 4 19,.cell 4 20,.cell 4 21,.cell 4 22,.cell 4 23,.cell 4 24,.cell 4 25,.cell 4 26,.cell 4 27,.cell 4 28,.cell 4 29,.cell 4 30,.cell 4 31,.cell 4 32,.cell 4 33,.cell 4 34,.cell 4 35,.cell 4 36,.cell 4 37,.cell 4 38,.cell 4 39,.cell 4 40,.cell 4 41,.cell 4 42,.cell 4 43,.cell 4 44,.cell 4 45,.cell 4 46,.cell 4 47,.cell 4 48,.cell 4 49,.cell 4 50,.cell 4 51,.cell 4 52,.cell 4 53,.cell 4 54,.cell 4 55,.cell 4 56,.cell 4 57,.cell 4 58,.cell 4 59,.cell 4 60,.cell 4 61,.cell 4 62,.cell 4 63,.cell 4 64,.cell 4 65,.cell 4 66,.cell 4 67,.cell 4 68,.cell 4 69,.cell 4 70,.cell 4 71,.cell 4 72,.cell 4 73,.cell 4 74,.cell 4 75,.cell 4 76,.cell 4 77,.cell 4 78,.cell 4 79,.cell 4 80,.cell 4 81,.cell 4 82,.cell 4 83,.cell 4 84,.cell 4 85,.cell 4 86,.cell 4 87,.cell 4 88,.cell 4 89,.cell 4 90,.cell 4 91,.cell 4 92,.cell 4 93,.cell 4 94,.cell 4 95,.cell 4 96,.cell 4 97,.cell 4 98,.cell 4 99,.cell 4 100,.cell 4 101,.cell 4 102,.cell 4 103,.cell 4 104,.cell 4 105,.cell 4 106,.cell 4 107,.cell 4 108,.cell 4 109,.cell 4 110,.cell 4 111,.cell 4 112,.cell 4 113,.cell 4 114,.cell 4 115,.cell 4 116,.cell 4 117,.cell 4 118,.cell 4 119,.cell 4 120,.cell 4 121,.cell 4 122,.cell 4 123,.cell 4 124,.cell 4 125,.cell 4 126,.cell 4 127,.cell 4 128,.cell 4 129,.cell 4 130,.cell 4 131,.cell 4 132,.cell 4 133,.cell 4 134,.cell 4 135,.cell 4 136,.cell 4 137,.cell 4 138,.cell 4 139,.cell 4 140,.cell 4 141,.cell 4 142,.cell 4 143,.cell 4 144,.cell 4 145,.cell 4 146,.cell 4 147,.cell 4 148,.cell 4 149,.cell 4 150,.cell 4 151,.cell 4 152,.cell 4 153,.cell 4 154,.cell 4 155,.cell 4 156,.cell 4 157,.cell 4 158,.cell 4 159,.cell 4 160,.cell 4 161,.cell 4 162,.cell 4 163,.cell 4 164,.cell 4 165,.cell 4 166,.cell 4 167,.cell 4 168,.cell 4 169,.cell 4 170,.cell 4 171,.cell 4 172,.cell 4 173,.cell 4 174,.cell 4 175,.cell 4 176,.cell 4 177,.cell 4 178,.cell 4 179,.cell 4 180,.cell 4 181,.cell 4 182,.cell 4 183,.cell 4 184,.cell 4 185,.cell 4 186,.cell 4 187,.cell 4 188,.cell 4 189,.cell 4 190,.cell 4 191,.cell 4 192,.cell 4 193,.cell 4 194,.cell 4 195,.cell 4 196,.cell 4 197,.cell 4 198,.cell 4 199,.cell 4 200,.cell 4 201,.cell 4 202,.cell 4 203,.cell 4 204,.cell 4 205,.cell 4 206,.cell 4 207,.cell 4 208,.cell 4 209,.cell 4 210,.cell 4 211,.cell 4 212,.cell 4 213,.cell 4 214,.cell 4 215,.cell 4 216,.cell 4 217,.cell 4 218,.cell 4 219,.cell 4 220,.cell 4 221,.cell 4 222,.cell 4 223,.cell 4 224,.cell 4 225,.cell 4 226,.cell 4 227,.cell 4 228,.cell 4 229,.cell 4 230,.cell 4 231,.cell 4 232,.cell 4 233,.cell 4 234,.cell 4 235,.cell 4 236,.cell 4 237,.cell 4 238,.cell 4 239,.cell 4 240,.cell 4 241,.cell 4 242,.cell 4 243,.cell 4 244,.cell 4 245,.cell 4 246,.cell 4 247,.cell 4 248,.cell 4 249,.cell 4 250,.cell 4 251,.cell 4 252,.cell 4 253,.cell 4 254,.cell 4 255]) 8 (by kernel_rfl) (by kernel_rfl) (by kernel_rfl)
end Go.Proofs.YtmipaoobkjppdaaGreatDoor.TabFnTexts
