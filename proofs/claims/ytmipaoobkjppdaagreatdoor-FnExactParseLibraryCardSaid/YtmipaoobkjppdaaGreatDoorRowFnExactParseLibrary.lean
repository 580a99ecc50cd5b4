/- The card of FnExactParseLibrary: the program's ParseLibrary returns what the reference's returns, for all arguments. -/
import Derived.Test.YtmipaoobkjppdaaGreatDoorCards
import Derived.Test.YtmipaoobkjppdaaGreatDoorTie
import Derived.Deep.DeepHandedRow
import Derived.Test.YtmipaoobkjppdaaGreatDoorPureFnExactParseLibrary
import Derived.ProofKit
import Derived.OpenShut
import Derived.ShutString
import Derived.ChangeOld
namespace Go.Proofs.YtmipaoobkjppdaaGreatDoor.fnExactParseLibrary
open Go.ChangeShapes Go.WideShapes Go.ChangeAt Go.RowKit Go.Proofs.YtmipaoobkjppdaaGreatDoor.QFnExactParseLibrary Go.Proofs.YtmipaoobkjppdaaGreatDoorW.PrintWords Go.Proofs.YtmipaoobkjppdaaGreatDoor.OpFnExactParseLibrary
open Go.ChangeMaps (open_string shut_string)
set_option linter.unusedVariables false
theorem own:ownKnob Tryz.prog.godebug=none:=by kernel_rfl
theorem laidOut:laidOutB Tryz.prog=true:=by kernel_rfl
set_option maxRecDepth 100000 in
theorem pZ (H:Type) (enc:TypeId×Value→H) (W:World) (base:Nat) (args:Array Value) (ds gs:List (DataW H)) (before:List MemPlace)
  (hval0:∀(j:Nat) t v,Tryz.f3.params[j]? =some t→args[j]? =some v→Value.okWide Tryz.prog W .any base t v)
  (hW:DataW.Whole enc Tryz.prog Tryz.f3.params.toList Rows.fnExactParseLibrarySpec.vars false W args.toList ds gs before) (hL:laidMetH Tryz.prog Rows.fnExactParseLibraryRow.laid W) (hsh:W.ShapedOpen Tryz.prog) :
  Calls Tryz.prog 3 args W fun e W'=>∃v,e=.returned v∧Rows.fnExactParseLibrarySpec.post enc Tryz.prog Tryz.f3 false true false false W args v W':=by
 have hval:∀(j:Nat) t v,Tryz.f3.params[j]? =some t→args[j]? =some v→Value.okWide Tryz.prog W .any base t v:=hval0;have hW':=hW;obtain⟨p,q,hA0,hV,rfl,hfz,hnd⟩:=hW;have hA:DataW.TrodAll enc Tryz.prog W 0 (fun _=>true) true Tryz.f3.params.toList args.toList ds p:=hA0;rw[Tryz.params3]at hA hval;obtain⟨v0,vs0,d0,ds0,p0,q0,hargs,rfl,rfl,h0,r0⟩:=trodAll_cons hA;obtain⟨rfl,rfl,rfl⟩:=trodAll_nil r0;obtain rfl:args=#[v0]:=by cases args;simp_all
 have hVlt:=DataW.TrodVars.lt hV;obtain⟨gv,tv,csv,fv,dv,pv,rfl,hgv,htv,hvv,htrv,rfl⟩:=trodVars_one (n:= "loop.example/g00591/impl.opNames") hV;obtain rfl:gv=0:=Option.some.inj (hgv.symm.trans (by kernel_rfl));obtain rfl:tv=78:=Option.some.inj (htv.symm.trans (by kernel_rfl));obtain⟨a0,rfl,rfl,rfl,y0⟩:=open_string Tryz.underlying9 (hval 0 9 v0 rfl rfl) h0;clear hA0 hval0;obtain⟨k,hpure⟩:=Pure.FnExactParseLibrary a0 y0;refine(QFnExactParseLibrary.bS.calls k a0 true W  hpure (TabFnExactParseLibrary.tabs_of hL hsh)).mono fun e W' ⟨he,bel0⟩=>?_
 have bel:Below W.heap.size W W':=bel0;subst he;obtain⟨fq,hq⟩:=Below.trod laidOut (by kernel_rfl) (of_decide_eq_true (by kernel_rfl)) (show DataW.Trod enc Tryz.prog W 0 (fun _=>true) true 78 (.agg csv) dv pv from⟨fv,htrv⟩) bel (fun x hx=>hVlt x (List.mem_append_right _ hx));exact⟨_,rfl,_,_,_,[],_,_,hW',trodAll_mk1 (shut_bool Tryz.underlying4 _),(trodAll_cons_mk (shut_string Tryz.underlying9 y0) trodAll_mk0),trodVars_mk1 hgv htv (TabFnExactParseLibrary.fY hgv bel hvv) hq,bel.frame _,fun h=>by cases h⟩
set_option maxRecDepth 100000 in
theorem lifted (os:Os) (started:os.Started) (H:Type) (enc:TypeId×Value→H) (F:Stop.Interp) :
  ReturnsInHanded {} Tryz.checked os 3 .any ((OpenSpec.ofChange Rows.fnExactParseLibrarySpec).preRow enc Tryz.prog Tryz.f3 Rows.fnExactParseLibraryRow.domain false Rows.fnExactParseLibraryRow.laid) (((OpenSpec.ofChange Rows.fnExactParseLibrarySpec).at F).post enc Tryz.prog Tryz.f3 false true false false):=by
 refine returnsInHanded_of_row (C:=Tryz.checked) (s:=OpenSpec.ofChange Rows.fnExactParseLibrarySpec) own started (by kernel_rfl) Tryz.func3
  (witness_row_at (enc:=enc) (C:=Tryz.checked) false (TabFnExactParseLibrary.laidWorld os) #[.string ByteArray.empty] rfl (by kernel_rfl) (by kernel_rfl) (by kernel_rfl)
   (OpenSpec.preRow_of_B rfl 8 (by kernel_rfl) (by kernel_rfl) (TabFnExactParseLibrary.oS os _))) ?_
 intro W base args ds gs before hval hW _ _ _ hL hsh _;exact pZ H enc W base args ds gs before hval hW hL hsh
theorem said:Rows.FnExactParseLibrarySaid :=
 OpenClaim.holds_of_cond 3 Tryz.f3 rfl rfl rfl rfl rfl rfl rfl ⟨rfl,rfl,rfl,rfl,rfl⟩ rfl rfl rfl rfl rfl (by kernel_rfl) Tryz.func3 (by kernel_rfl)
  (of_decide_eq_true (by kernel_rfl)) (by unfold Func.isWrapper;first|(rw[if_pos (by decide +kernel)];kernel_rfl)|(rw[if_neg (by decide +kernel)];exact⟨rfl,rfl⟩))
  (fun os started H enc _ F=>by rw[OpenClaim.pre_eq_preRow];exact lifted os started H enc F)
theorem plain (f:FuncId) (fn:Func) (hf:Tryz.pinned.checked.prog.funcNamed "loop.example/g00591/laws.FnExactParseLibrary" = some f) (hfn:Tryz.pinned.checked.prog.funcs[f]? =some fn) :
  true=Tryz.pinned.checked.prog.looks []∧∀(j:Nat) t,fn.params[j]? =some t→Tryz.pinned.checked.prog.wantsStandIn t=false:=by
 obtain rfl:f=3:=Option.some.inj ((show Tryz.prog.funcNamed "loop.example/g00591/laws.FnExactParseLibrary" = some 3 by kernel_rfl).symm.trans hf) |>.symm
 obtain rfl:fn=Tryz.f3:=(Option.some.inj (Tryz.func3.symm.trans hfn)).symm;refine⟨by kernel_rfl,fun j t ht=>?_⟩;rw[Tryz.params3]at ht;obtain rfl:t=9:=by simpa using Array.mem_of_getElem? ht
 exact(show Tryz.prog.wantsStandIn 9=false by kernel_rfl)
theorem card:Rows.FnExactParseLibraryCardSaid :=
 Claim7.holds_tied_plain_at .later [] _ _ _ _ said (fun _ h=>by cases h) (by kernel_rfl) (fun _ h=>by cases h) fnExactParseLibrary_row_tie rfl ⟨rfl,rfl⟩ (by kernel_rfl) rfl plain (by kernel_rfl)
end Go.Proofs.YtmipaoobkjppdaaGreatDoor.fnExactParseLibrary
namespace Go.Proofs.YtmipaoobkjppdaaGreatDoor
theorem fnExactParseLibrary_holds:Rows.FnExactParseLibraryCardSaid:=fnExactParseLibrary.card
#print axioms fnExactParseLibrary_holds
end Go.Proofs.YtmipaoobkjppdaaGreatDoor
