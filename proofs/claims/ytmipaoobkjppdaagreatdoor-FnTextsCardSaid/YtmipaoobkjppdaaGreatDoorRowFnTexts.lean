/- The card of FnTexts: the program's function and the reference answer alike, at every input that the statement lets in; written by a program of this session, with contracts by hand. -/
import Derived.Test.YtmipaoobkjppdaaGreatDoorCards
import Derived.Test.YtmipaoobkjppdaaGreatDoorTie
import Derived.Deep.DeepHandedRow
import Derived.Test.YtmipaoobkjppdaaGreatDoorPureFnTexts
import Derived.ProofKit
import Derived.OpenShut
import Derived.ShutString
import Derived.ChangeOld
namespace Go.Proofs.YtmipaoobkjppdaaGreatDoor.fnTexts
open Go.ChangeShapes Go.WideShapes Go.ChangeAt Go.RowKit Go.Proofs.YtmipaoobkjppdaaGreatDoor.QFnTexts Go.Proofs.YtmipaoobkjppdaaGreatDoorW.PrintWords Go.Proofs.YtmipaoobkjppdaaGreatDoor.OpFnTexts
open Go.ChangeMaps (open_string shut_string)
set_option linter.unusedVariables false
theorem own:ownKnob Tryz.prog.godebug=none:=by kernel_rfl
theorem laidOut:laidOutB Tryz.prog=true:=by kernel_rfl
set_option maxRecDepth 100000 in
theorem sF (H:Type) (enc:TypeId×Value→H) (W:World) (base:Nat) (args:Array Value) (ds gs:List (DataW H)) (before:List MemPlace)
  (hval0:∀(j:Nat) t v,Tryz.f4.params[j]? =some t→args[j]? =some v→Value.okWide Tryz.prog W .any base t v)
  (hW:DataW.Whole enc Tryz.prog Tryz.f4.params.toList Rows.fnTextsSpec.vars false W args.toList ds gs before) (hL:laidMetH Tryz.prog Rows.fnTextsRow.laid W) (hsh:W.ShapedOpen Tryz.prog) :
  Calls Tryz.prog 4 args W fun e W'=>∃v,e=.returned v∧Rows.fnTextsSpec.post enc Tryz.prog Tryz.f4 false true false false W args v W':=by
 have hval:∀(j:Nat) t v,Tryz.f4.params[j]? =some t→args[j]? =some v→Value.okWide Tryz.prog W .any base t v:=hval0;have hW':=hW;obtain⟨p,q,hA0,hV,rfl,hfz,hnd⟩:=hW;have hA:DataW.TrodAll enc Tryz.prog W 0 (fun _=>true) true Tryz.f4.params.toList args.toList ds p:=hA0;rw[Tryz.params4]at hA hval;obtain⟨v0,vs0,d0,ds0,p0,q0,hargs,rfl,rfl,h0,r0⟩:=trodAll_cons hA;obtain⟨rfl,rfl,rfl⟩:=trodAll_nil r0;obtain rfl:args=#[v0]:=by cases args;simp_all
 have hVlt:=DataW.TrodVars.lt hV;obtain⟨gv,tv,csv,fv,dv,pv,rfl,hgv,htv,hvv,htrv,rfl⟩:=trodVars_one (n:= "loop.example/g00591/impl.opNames") hV;obtain rfl:gv=0:=Option.some.inj (hgv.symm.trans (by kernel_rfl));obtain rfl:tv=78:=Option.some.inj (htv.symm.trans (by kernel_rfl));have kk0:=h0;have lt0:∀x∈p0,x.block<W.heap.size:=by obtain⟨m,hm⟩:=kk0;exact DataW.trod_lt m _ _ _ hm
 obtain⟨a0,len0,cap0,hv0⟩:=okWide_slice Tryz.underlying28 (hval 0 28 v0 rfl rfl);subst hv0
 obtain⟨y0,A0,c0,he0,hl0,hc0,hg0⟩:∃(y:List Int) (A':Option Addr) (c':Nat),Value.slice a0 len0 cap0=.slice A' y.length c'∧y.length≤c'∧Kd.C (Kd.int .u8) W A' y.length y∧(fun xs:List Int=>xs.length≤maxLen∧∀y∈xs,(fun n:Int=>(Lit.int .u8 n).wf=true) y) y:=by
  obtain⟨fuel,hf⟩:=h0;obtain⟨y,⟨A',c',he,hl,hc⟩,hg⟩:=(Bridge.rJ Tryz.underlying28 (Bridge.op_int Tryz.underlying5) (by kernel_rfl)) _ _ _ _ _ _ _ _ _ hf;exact⟨y,A',c',by simpa [Value.cells] using he,hl,hc,hg⟩
 obtain⟨rfl,rfl,rfl⟩:a0=A0∧len0=y0.length∧cap0=c0:=by simpa using he0
 clear hA0 hval0;obtain⟨k,hpure⟩:=Pure.FnTexts y0 hg0;refine(QFnTexts.bc.calls k _ _ y0 true W hc0 hl0 hpure (TabFnTexts.tabs_of hL hsh)).mono fun e W' ⟨he,bel0⟩=>?_
 have bel:Below W.heap.size W W':=bel0;subst he;obtain⟨fq,hq⟩:=Below.trod laidOut (by kernel_rfl) (of_decide_eq_true (by kernel_rfl)) (show DataW.Trod enc Tryz.prog W 0 (fun _=>true) true 78 (.agg csv) dv pv from⟨fv,htrv⟩) bel (fun x hx=>hVlt x (List.mem_append_right _ hx));exact⟨_,rfl,_,_,_,[],_,_,hW',trodAll_mk1 (shut_bool Tryz.underlying4 _),(trodAll_cons_mk (Below.trod laidOut (by kernel_rfl) (of_decide_eq_true (by kernel_rfl)) kk0 bel lt0) trodAll_mk0),trodVars_mk1 hgv htv (TabFnTexts.iF hgv bel hvv) hq,bel.frame _,fun h=>by cases h⟩
set_option maxRecDepth 100000 in
theorem lifted (os:Os) (started:os.Started) (H:Type) (enc:TypeId×Value→H) (F:Stop.Interp) :
  ReturnsInHanded {} Tryz.checked os 4 .any ((OpenSpec.ofChange Rows.fnTextsSpec).preRow enc Tryz.prog Tryz.f4 Rows.fnTextsRow.domain false Rows.fnTextsRow.laid) (((OpenSpec.ofChange Rows.fnTextsSpec).at F).post enc Tryz.prog Tryz.f4 false true false false):=by
 refine returnsInHanded_of_row (C:=Tryz.checked) (s:=OpenSpec.ofChange Rows.fnTextsSpec) own started (by kernel_rfl) Tryz.func4
  (witness_row_at (enc:=enc) (C:=Tryz.checked) false (TabFnTexts.laidWorld os) #[.slice none 0 0] rfl (by kernel_rfl) (by kernel_rfl) (by kernel_rfl)
   (OpenSpec.preRow_of_B rfl 8 (by kernel_rfl) (by kernel_rfl) (TabFnTexts.qU os _))) ?_
 intro W base args ds gs before hval hW _ _ _ hL hsh _;exact sF H enc W base args ds gs before hval hW hL hsh
theorem said:Rows.FnTextsSaid :=
 OpenClaim.holds_of_cond 4 Tryz.f4 rfl rfl rfl rfl rfl rfl rfl ⟨rfl,rfl,rfl,rfl,rfl⟩ rfl rfl rfl rfl rfl (by kernel_rfl) Tryz.func4 (by kernel_rfl)
  (of_decide_eq_true (by kernel_rfl)) (by unfold Func.isWrapper;first|(rw[if_pos (by decide +kernel)];kernel_rfl)|(rw[if_neg (by decide +kernel)];exact⟨rfl,rfl⟩))
  (fun os started H enc _ F=>by rw[OpenClaim.pre_eq_preRow];exact lifted os started H enc F)
theorem plain (f:FuncId) (fn:Func) (hf:Tryz.pinned.checked.prog.funcNamed "loop.example/g00591/laws.FnTexts" = some f) (hfn:Tryz.pinned.checked.prog.funcs[f]? =some fn) :
  true=Tryz.pinned.checked.prog.looks []∧∀(j:Nat) t,fn.params[j]? =some t→Tryz.pinned.checked.prog.wantsStandIn t=false:=by
 obtain rfl:f=4:=Option.some.inj ((show Tryz.prog.funcNamed "loop.example/g00591/laws.FnTexts" = some 4 by kernel_rfl).symm.trans hf) |>.symm
 obtain rfl:fn=Tryz.f4:=(Option.some.inj (Tryz.func4.symm.trans hfn)).symm;refine⟨by kernel_rfl,fun j t ht=>?_⟩;rw[Tryz.params4]at ht;obtain rfl:t=28:=by simpa using Array.mem_of_getElem? ht
 exact(show Tryz.prog.wantsStandIn 28=false by kernel_rfl)
theorem card:Rows.FnTextsCardSaid :=
 Claim7.holds_tied_plain_at .later [] _ _ _ _ said (fun _ h=>by cases h) (by kernel_rfl) (fun _ h=>by cases h) fnTexts_row_tie rfl ⟨rfl,rfl⟩ (by kernel_rfl) rfl plain (by kernel_rfl)
end Go.Proofs.YtmipaoobkjppdaaGreatDoor.fnTexts
namespace Go.Proofs.YtmipaoobkjppdaaGreatDoor
theorem fnTexts_holds:Rows.FnTextsCardSaid:=fnTexts.card
#print axioms fnTexts_holds
end Go.Proofs.YtmipaoobkjppdaaGreatDoor
