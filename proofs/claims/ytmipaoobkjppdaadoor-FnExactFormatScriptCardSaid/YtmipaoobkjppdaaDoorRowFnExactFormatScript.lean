-- Written by a program of this session, after the kit's print, with contracts by hand.
import Derived.Test.YtmipaoobkjppdaaDoorCards
import Derived.Test.YtmipaoobkjppdaaDoorTie
import Derived.Test.YtmipaoobkjppdaaDoorTabFnExactFormatScript
import Derived.Deep.DeepHandedRow
import Derived.Test.YtmipaoobkjppdaaDoorRows
import Derived.Test.YtmipaoobkjppdaaDoorOpFnExactFormatScript
import Derived.Test.YtmipaoobkjppdaaDoorPureFnExactFormatScript
import Derived.WalkKit
import Derived.ProofKit
import Derived.OpenShut
import Derived.ShutString
import Derived.ChangeOld
import Derived.Below
import Derived.SizedLaws
namespace Go.Proofs.YtmipaoobkjppdaaDoor.fnExactFormatScript
open Go.ChangeShapes Go.WideShapes Go.ChangeAt Go.RowKit Go.Proofs.YtmipaoobkjppdaaDoor.QFnExactFormatScript Go.Proofs.YtmipaoobkjppdaaDoorW.PrintWords Go.Proofs.YtmipaoobkjppdaaDoor.OpFnExactFormatScript
open Go.ChangeMaps (open_string shut_string)
set_option linter.unusedVariables false
theorem own : ownKnob Tryd.prog.godebug = none := by kernel_rfl
theorem laidOut : laidOutB Tryd.prog = true := by kernel_rfl
set_option maxRecDepth 100000 in
theorem contract (H : Type) (enc : TypeId × Value → H) (W : World) (base : Nat) (args : Array Value) (ds gs : List (DataW H)) (before : List MemPlace)
    (hval0 : ∀ (j : Nat) t v, Tryd.f6.params[j]? = some t → args[j]? = some v → Value.okWide Tryd.prog W .any base t v)
    (hW : DataW.Whole enc Tryd.prog Tryd.f6.params.toList Rows.fnExactFormatScriptSpec.vars false W args.toList ds gs before) (hL : laidMetH Tryd.prog Rows.fnExactFormatScriptRow.laid W) :
    Calls Tryd.prog 6 args W fun e W' => ∃ v, e = .returned v ∧ Rows.fnExactFormatScriptSpec.post enc Tryd.prog Tryd.f6 false true false false W args v W' := by
  have hval : ∀ (j : Nat) t v, Tryd.f6.params[j]? = some t → args[j]? = some v → Value.okWide Tryd.prog W .any base t v := hval0
  have hW' := hW
  obtain ⟨p, q, hA0, hV, rfl, hfz, hnd⟩ := hW
  have hA : DataW.TrodAll enc Tryd.prog W 0 (fun _ => true) true Tryd.f6.params.toList args.toList ds p := hA0
  rw [Tryd.params6] at hA hval
  obtain ⟨v0, vs0, d0, ds0, p0, q0, hargs, rfl, rfl, h0, r0⟩ := trodAll_cons hA
  obtain ⟨rfl, rfl, rfl⟩ := trodAll_nil r0
  obtain rfl : args = #[v0] := by cases args; simp_all
  have hVlt := DataW.TrodVars.lt hV
  obtain ⟨gv, tv, csv, fv, dv, pv, rfl, hgv, htv, hvv, htrv, rfl⟩ := trodVars_one (n := "loop.example/g00591/impl.opNames") hV
  obtain rfl : gv = 0 := Option.some.inj (hgv.symm.trans (by kernel_rfl))
  obtain rfl : tv = 63 := Option.some.inj (htv.symm.trans (by kernel_rfl))
  have kk0 := h0
  have lt0 : ∀ x ∈ p0, x.block < W.heap.size := by obtain ⟨m, hm⟩ := kk0; exact DataW.trod_lt m _ _ _ hm
  obtain ⟨cs0, hv0, _⟩ := okWide_struct Tryd.underlying41 (hval 0 41 v0 rfl rfl)
  subst hv0
  obtain ⟨y0, hk0, hg0⟩ : ∃ y : S41, k41.K W y cs0.toList ∧ G41 y := by
    obtain ⟨fuel, hf⟩ := h0
    obtain ⟨y, hk, hg⟩ := op41 _ _ _ _ _ _ _ _ _ hf
    exact ⟨y, by simpa [Value.cells] using hk, hg⟩
  obtain ⟨A0_1, c0_1, he0, hl0_1, hc0_1⟩ := k41_open hk0
  obtain rfl : cs0 = #[.string y0.f0, .slice A0_1 y0.f1.length c0_1] := Array.toList_inj.1 (by simpa using he0)
  clear hA0 hval0
  obtain ⟨k, hpure⟩ := Pure.FnExactFormatScript y0 hg0
  refine (QFnExactFormatScript.laws_FnExactFormatScript.calls k y0.f0 A0_1 c0_1 y0.f1 true W hc0_1 hl0_1 hpure (TabFnExactFormatScript.tabs_of hL)).mono fun e W' ⟨he, bel0⟩ => ?_
  have bel : Below W.heap.size W W' := bel0
  subst he
  obtain ⟨fq, hq⟩ := Below.trod laidOut (by kernel_rfl) (of_decide_eq_true (by kernel_rfl)) (show DataW.Trod enc Tryd.prog W 0 (fun _ => true) true 63 (.agg csv) dv pv from ⟨fv, htrv⟩) bel (fun x hx => hVlt x (List.mem_append_right _ hx))
  exact ⟨_, rfl, _, _, _, [], _, _, hW', trodAll_mk1 (shut_bool Tryd.underlying4 _), (trodAll_cons_mk (Below.trod laidOut (by kernel_rfl) (of_decide_eq_true (by kernel_rfl)) kk0 bel lt0) trodAll_mk0), trodVars_mk1 hgv htv (TabFnExactFormatScript.var_lasts hgv bel hvv) hq, bel.frame _, fun h => by cases h⟩
set_option maxRecDepth 100000 in
theorem lifted (os : Os) (started : os.Started) (H : Type) (enc : TypeId × Value → H) (F : Stop.Interp) :
    ReturnsInHanded {} Tryd.checked os 6 .any ((OpenSpec.ofChange Rows.fnExactFormatScriptSpec).preRow enc Tryd.prog Tryd.f6 Rows.fnExactFormatScriptRow.domain false Rows.fnExactFormatScriptRow.laid) (((OpenSpec.ofChange Rows.fnExactFormatScriptSpec).at F).post enc Tryd.prog Tryd.f6 false true false false) := by
  refine returnsInHanded_of_row (C := Tryd.checked) (s := OpenSpec.ofChange Rows.fnExactFormatScriptSpec) own started (by kernel_rfl) Tryd.func6
    (witness_row_at (enc := enc) (C := Tryd.checked) false (TabFnExactFormatScript.laidWorld os) #[(.agg #[(.string ⟨#[]⟩), (.slice none 0 0)])] rfl (by kernel_rfl) (by kernel_rfl) (by kernel_rfl)
      (OpenSpec.preRow_of_B rfl 8 (by kernel_rfl) (by kernel_rfl) (TabFnExactFormatScript.laid_met os _))) ?_
  intro W base args ds gs before hval hW _ _ _ hL _ _
  exact contract H enc W base args ds gs before hval hW hL
theorem said : Rows.FnExactFormatScriptSaid :=
  OpenClaim.holds_of_cond 6 Tryd.f6 rfl rfl rfl rfl rfl rfl rfl ⟨rfl, rfl, rfl, rfl, rfl⟩ rfl rfl rfl rfl rfl (by kernel_rfl) Tryd.func6 (by kernel_rfl)
    (of_decide_eq_true (by kernel_rfl)) (by unfold Func.isWrapper; first | (rw [if_pos (by decide +kernel)]; kernel_rfl) | (rw [if_neg (by decide +kernel)]; exact ⟨rfl, rfl⟩))
    (fun os started H enc _ F => by rw [OpenClaim.pre_eq_preRow]; exact lifted os started H enc F)
theorem plain (f : FuncId) (fn : Func) (hf : Tryd.pinned.checked.prog.funcNamed "loop.example/g00591/laws.FnExactFormatScript" = some f) (hfn : Tryd.pinned.checked.prog.funcs[f]? = some fn) :
    true = Tryd.pinned.checked.prog.looks [] ∧ ∀ (j : Nat) t, fn.params[j]? = some t → Tryd.pinned.checked.prog.wantsStandIn t = false := by
  obtain rfl : f = 6 := Option.some.inj ((show Tryd.prog.funcNamed "loop.example/g00591/laws.FnExactFormatScript" = some 6 by kernel_rfl).symm.trans hf) |>.symm
  obtain rfl : fn = Tryd.f6 := (Option.some.inj (Tryd.func6.symm.trans hfn)).symm
  refine ⟨by kernel_rfl, fun j t ht => ?_⟩
  rw [Tryd.params6] at ht
  obtain rfl : t = 41 := by simpa using Array.mem_of_getElem? ht
  exact (show Tryd.prog.wantsStandIn 41 = false by kernel_rfl)
theorem card : Rows.FnExactFormatScriptCardSaid :=
  Claim7.holds_tied_plain_at .later [] _ _ _ _ said (fun _ h => by cases h) (by kernel_rfl) (fun _ h => by cases h) fnExactFormatScript_row_tie rfl ⟨rfl, rfl⟩ (by kernel_rfl) rfl plain (by kernel_rfl)
end Go.Proofs.YtmipaoobkjppdaaDoor.fnExactFormatScript
namespace Go.Proofs.YtmipaoobkjppdaaDoor
/-- The card, under a short name, for the claim. -/
theorem fnExactFormatScript_holds : Rows.FnExactFormatScriptCardSaid := fnExactFormatScript.card
#print axioms fnExactFormatScript_holds
end Go.Proofs.YtmipaoobkjppdaaDoor
