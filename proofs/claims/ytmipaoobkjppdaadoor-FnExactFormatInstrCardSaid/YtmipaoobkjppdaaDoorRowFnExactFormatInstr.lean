-- Written by a program of this session, after the kit's print, with contracts by hand.
import Derived.Test.YtmipaoobkjppdaaDoorCards
import Derived.Test.YtmipaoobkjppdaaDoorTie
import Derived.Test.YtmipaoobkjppdaaDoorTabFnExactFormatInstr
import Derived.Deep.DeepHandedRow
import Derived.Test.YtmipaoobkjppdaaDoorRows
import Derived.Test.YtmipaoobkjppdaaDoorOpFnExactFormatInstr
import Derived.Test.YtmipaoobkjppdaaDoorPureFnExactFormatInstr
import Derived.WalkKit
import Derived.ProofKit
import Derived.OpenShut
import Derived.ShutString
import Derived.ChangeOld
import Derived.Below
import Derived.SizedLaws
namespace Go.Proofs.YtmipaoobkjppdaaDoor.fnExactFormatInstr
open Go.ChangeShapes Go.WideShapes Go.ChangeAt Go.RowKit Go.Proofs.YtmipaoobkjppdaaDoor.QFnExactFormatInstr Go.Proofs.YtmipaoobkjppdaaDoorW.PrintWords Go.Proofs.YtmipaoobkjppdaaDoor.OpFnExactFormatInstr
open Go.ChangeMaps (open_string shut_string)
set_option linter.unusedVariables false
theorem own : ownKnob Tryd.prog.godebug = none := by kernel_rfl
theorem laidOut : laidOutB Tryd.prog = true := by kernel_rfl
set_option maxRecDepth 100000 in
theorem contract (H : Type) (enc : TypeId × Value → H) (W : World) (base : Nat) (args : Array Value) (ds gs : List (DataW H)) (before : List MemPlace)
    (hval0 : ∀ (j : Nat) t v, Tryd.f5.params[j]? = some t → args[j]? = some v → Value.okWide Tryd.prog W .any base t v)
    (hW : DataW.Whole enc Tryd.prog Tryd.f5.params.toList Rows.fnExactFormatInstrSpec.vars false W args.toList ds gs before) (hL : laidMetH Tryd.prog Rows.fnExactFormatInstrRow.laid W) :
    Calls Tryd.prog 5 args W fun e W' => ∃ v, e = .returned v ∧ Rows.fnExactFormatInstrSpec.post enc Tryd.prog Tryd.f5 false true false false W args v W' := by
  have hval : ∀ (j : Nat) t v, Tryd.f5.params[j]? = some t → args[j]? = some v → Value.okWide Tryd.prog W .any base t v := hval0
  have hW' := hW
  obtain ⟨p, q, hA0, hV, rfl, hfz, hnd⟩ := hW
  have hA : DataW.TrodAll enc Tryd.prog W 0 (fun _ => true) true Tryd.f5.params.toList args.toList ds p := hA0
  rw [Tryd.params5] at hA hval
  obtain ⟨v0, vs0, d0, ds0, p0, q0, hargs, rfl, rfl, h0, r0⟩ := trodAll_cons hA
  obtain ⟨rfl, rfl, rfl⟩ := trodAll_nil r0
  obtain rfl : args = #[v0] := by cases args; simp_all
  have hVlt := DataW.TrodVars.lt hV
  obtain ⟨gv, tv, csv, fv, dv, pv, rfl, hgv, htv, hvv, htrv, rfl⟩ := trodVars_one (n := "loop.example/g00591/impl.opNames") hV
  obtain rfl : gv = 0 := Option.some.inj (hgv.symm.trans (by kernel_rfl))
  obtain rfl : tv = 63 := Option.some.inj (htv.symm.trans (by kernel_rfl))
  have kk0 := h0
  have lt0 : ∀ x ∈ p0, x.block < W.heap.size := by obtain ⟨m, hm⟩ := kk0; exact DataW.trod_lt m _ _ _ hm
  obtain ⟨cs0, hv0, _⟩ := okWide_struct Tryd.underlying34 (hval 0 34 v0 rfl rfl)
  subst hv0
  obtain ⟨y0, hk0, hg0⟩ : ∃ y : S34, k34.K W y cs0.toList ∧ G34 y := by
    obtain ⟨fuel, hf⟩ := h0
    obtain ⟨y, hk, hg⟩ := op34 _ _ _ _ _ _ _ _ _ hf
    exact ⟨y, by simpa [Value.cells] using hk, hg⟩
  have he0 := k34_open hk0
  obtain rfl : cs0 = #[.int .i64 y0.f0, .int .i64 y0.f1, .int .i64 y0.f2, .int .i64 y0.f3, .int .i64 y0.f4, .string y0.f5] := Array.toList_inj.1 (by simpa using he0)
  clear hA0 hval0
  obtain ⟨k, hpure⟩ := Pure.FnExactFormatInstr y0 hg0
  refine (QFnExactFormatInstr.laws_FnExactFormatInstr.calls k y0.f0 y0.f1 y0.f2 y0.f3 y0.f4 y0.f5 true W  hpure (TabFnExactFormatInstr.tabs_of hL)).mono fun e W' ⟨he, bel0⟩ => ?_
  have bel : Below W.heap.size W W' := bel0
  subst he
  obtain ⟨fq, hq⟩ := Below.trod laidOut (by kernel_rfl) (of_decide_eq_true (by kernel_rfl)) (show DataW.Trod enc Tryd.prog W 0 (fun _ => true) true 63 (.agg csv) dv pv from ⟨fv, htrv⟩) bel (fun x hx => hVlt x (List.mem_append_right _ hx))
  exact ⟨_, rfl, _, _, _, [], _, _, hW', trodAll_mk1 (shut_bool Tryd.underlying4 _), (trodAll_cons_mk (Below.trod laidOut (by kernel_rfl) (of_decide_eq_true (by kernel_rfl)) kk0 bel lt0) trodAll_mk0), trodVars_mk1 hgv htv (TabFnExactFormatInstr.var_lasts hgv bel hvv) hq, bel.frame _, fun h => by cases h⟩
set_option maxRecDepth 100000 in
theorem lifted (os : Os) (started : os.Started) (H : Type) (enc : TypeId × Value → H) (F : Stop.Interp) :
    ReturnsInHanded {} Tryd.checked os 5 .any ((OpenSpec.ofChange Rows.fnExactFormatInstrSpec).preRow enc Tryd.prog Tryd.f5 Rows.fnExactFormatInstrRow.domain false Rows.fnExactFormatInstrRow.laid) (((OpenSpec.ofChange Rows.fnExactFormatInstrSpec).at F).post enc Tryd.prog Tryd.f5 false true false false) := by
  refine returnsInHanded_of_row (C := Tryd.checked) (s := OpenSpec.ofChange Rows.fnExactFormatInstrSpec) own started (by kernel_rfl) Tryd.func5
    (witness_row_at (enc := enc) (C := Tryd.checked) false (TabFnExactFormatInstr.laidWorld os) #[(.agg #[(.int .i64 0), (.int .i64 0), (.int .i64 0), (.int .i64 0), (.int .i64 0), (.string ⟨#[]⟩)])] rfl (by kernel_rfl) (by kernel_rfl) (by kernel_rfl)
      (OpenSpec.preRow_of_B rfl 8 (by kernel_rfl) (by kernel_rfl) (TabFnExactFormatInstr.laid_met os _))) ?_
  intro W base args ds gs before hval hW _ _ _ hL _ _
  exact contract H enc W base args ds gs before hval hW hL
theorem said : Rows.FnExactFormatInstrSaid :=
  OpenClaim.holds_of_cond 5 Tryd.f5 rfl rfl rfl rfl rfl rfl rfl ⟨rfl, rfl, rfl, rfl, rfl⟩ rfl rfl rfl rfl rfl (by kernel_rfl) Tryd.func5 (by kernel_rfl)
    (of_decide_eq_true (by kernel_rfl)) (by unfold Func.isWrapper; first | (rw [if_pos (by decide +kernel)]; kernel_rfl) | (rw [if_neg (by decide +kernel)]; exact ⟨rfl, rfl⟩))
    (fun os started H enc _ F => by rw [OpenClaim.pre_eq_preRow]; exact lifted os started H enc F)
theorem plain (f : FuncId) (fn : Func) (hf : Tryd.pinned.checked.prog.funcNamed "loop.example/g00591/laws.FnExactFormatInstr" = some f) (hfn : Tryd.pinned.checked.prog.funcs[f]? = some fn) :
    true = Tryd.pinned.checked.prog.looks [] ∧ ∀ (j : Nat) t, fn.params[j]? = some t → Tryd.pinned.checked.prog.wantsStandIn t = false := by
  obtain rfl : f = 5 := Option.some.inj ((show Tryd.prog.funcNamed "loop.example/g00591/laws.FnExactFormatInstr" = some 5 by kernel_rfl).symm.trans hf) |>.symm
  obtain rfl : fn = Tryd.f5 := (Option.some.inj (Tryd.func5.symm.trans hfn)).symm
  refine ⟨by kernel_rfl, fun j t ht => ?_⟩
  rw [Tryd.params5] at ht
  obtain rfl : t = 34 := by simpa using Array.mem_of_getElem? ht
  exact (show Tryd.prog.wantsStandIn 34 = false by kernel_rfl)
theorem card : Rows.FnExactFormatInstrCardSaid :=
  Claim7.holds_tied_plain_at .later [] _ _ _ _ said (fun _ h => by cases h) (by kernel_rfl) (fun _ h => by cases h) fnExactFormatInstr_row_tie rfl ⟨rfl, rfl⟩ (by kernel_rfl) rfl plain (by kernel_rfl)
end Go.Proofs.YtmipaoobkjppdaaDoor.fnExactFormatInstr
namespace Go.Proofs.YtmipaoobkjppdaaDoor
/-- The card, under a short name, for the claim. -/
theorem fnExactFormatInstr_holds : Rows.FnExactFormatInstrCardSaid := fnExactFormatInstr.card
#print axioms fnExactFormatInstr_holds
end Go.Proofs.YtmipaoobkjppdaaDoor
