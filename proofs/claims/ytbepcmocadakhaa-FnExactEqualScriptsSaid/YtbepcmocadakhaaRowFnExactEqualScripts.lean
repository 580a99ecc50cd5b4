-- Written by a program of this session, after the kit's print, with contracts by hand.
import Derived.Test.YtbepcmocadakhaaRows
import Derived.Test.YtbepcmocadakhaaOpFnExactEqualScripts
import Derived.Test.YtbepcmocadakhaaPureFnExactEqualScripts
import Derived.WalkKit
import Derived.ProofKit
import Derived.OpenShut
import Derived.ShutString
import Derived.ChangeOld
import Derived.Below
import Derived.SizedLaws
namespace Go.Proofs.Ytbepcmocadakhaa.fnExactEqualScripts
open Go.ChangeShapes Go.WideShapes Go.ChangeAt Go.RowKit Go.Proofs.Ytbepcmocadakhaa.QFnExactEqualScripts Go.Proofs.YtbepcmocadakhaaW.PrintWords Go.Proofs.Ytbepcmocadakhaa.OpFnExactEqualScripts
open Go.ChangeMaps (open_string shut_string)
set_option linter.unusedVariables false
theorem own : ownKnob Try.prog.godebug = none := by kernel_rfl
theorem laidOut : laidOutB Try.prog = true := by kernel_rfl
set_option maxRecDepth 100000 in
theorem lifted (os : Os) (started : os.Started) (H : Type) (enc : TypeId × Value → H) :
    ReturnsInHanded {} Try.checked os 6 .any (Rows.fnExactEqualScriptsSpec.pre6 enc Try.prog Try.f6 Rows.fnExactEqualScriptsRow.domain false) (Rows.fnExactEqualScriptsSpec.post enc Try.prog Try.f6 false true false false) := by
  refine returnsInHanded_of_change_sized (C := Try.checked) own started (by kernel_rfl) Try.func6
    (ChangeSpec.witness6 (enc := enc) (C := Try.checked) false ⟨#[], #[(.agg #[(.string ⟨#[]⟩), (.slice none 0 0)]), (.agg #[(.string ⟨#[]⟩), (.slice none 0 0)])], []⟩ 8 (by kernel_rfl) (by kernel_rfl) (by kernel_rfl) (by kernel_rfl)) ?_
  intro W base args ds gs before hval0 hW hcnd hsz0 _
  have hval : ∀ (j : Nat) t v, Try.f6.params[j]? = some t → args[j]? = some v → Value.okWide Try.prog W .any base t v := hval0
  have hW' := hW
  obtain ⟨p, q, hA0, hV, rfl, hfz, hnd⟩ := hW
  have hA : DataW.TrodAll enc Try.prog W 0 (fun _ => true) true Try.f6.params.toList args.toList ds p := hA0
  rw [Try.params6] at hA hval
  obtain ⟨v0, vs0, d0, ds0, p0, q0, hargs, rfl, rfl, h0, r0⟩ := trodAll_cons hA
  obtain ⟨v1, vs1, d1, ds1, p1, q1, rfl, rfl, rfl, h1, r1⟩ := trodAll_cons r0
  obtain ⟨rfl, rfl, rfl⟩ := trodAll_nil r1
  obtain rfl : args = #[v0, v1] := by cases args; simp_all
  obtain ⟨rfl, rfl⟩ := trodVars_none hV
  have kk0 := h0
  have lt0 : ∀ x ∈ p0, x.block < W.heap.size := by obtain ⟨m, hm⟩ := kk0; exact DataW.trod_lt m _ _ _ hm
  obtain ⟨cs0, hv0, _⟩ := okWide_struct Try.underlying49 (hval 0 49 v0 rfl rfl)
  subst hv0
  obtain ⟨y0, hk0, hg0⟩ : ∃ y : S49, k49.K W y cs0.toList ∧ G49 y := by
    obtain ⟨fuel, hf⟩ := h0
    obtain ⟨y, hk, hg⟩ := op49 _ _ _ _ _ _ _ _ _ hf
    exact ⟨y, by simpa [Value.cells] using hk, hg⟩
  obtain ⟨A0_1, c0_1, he0, hl0_1, hc0_1⟩ := k49_open hk0
  obtain rfl : cs0 = #[.string y0.f0, .slice A0_1 y0.f1.length c0_1] := Array.toList_inj.1 (by simpa using he0)
  have kk1 := h1
  have lt1 : ∀ x ∈ p1, x.block < W.heap.size := by obtain ⟨m, hm⟩ := kk1; exact DataW.trod_lt m _ _ _ hm
  obtain ⟨cs1, hv1, _⟩ := okWide_struct Try.underlying49 (hval 1 49 v1 rfl rfl)
  subst hv1
  obtain ⟨y1, hk1, hg1⟩ : ∃ y : S49, k49.K W y cs1.toList ∧ G49 y := by
    obtain ⟨fuel, hf⟩ := h1
    obtain ⟨y, hk, hg⟩ := op49 _ _ _ _ _ _ _ _ _ hf
    exact ⟨y, by simpa [Value.cells] using hk, hg⟩
  obtain ⟨A1_1, c1_1, he1, hl1_1, hc1_1⟩ := k49_open hk1
  obtain rfl : cs1 = #[.string y1.f0, .slice A1_1 y1.f1.length c1_1] := Array.toList_inj.1 (by simpa using he1)
  clear hA0 hval0 hsz0
  obtain ⟨k, hpure⟩ := Pure.FnExactEqualScripts y0 y1 hg0 hg1
  refine (QFnExactEqualScripts.laws_FnExactEqualScripts.calls k y0.f0 A0_1 c0_1 y0.f1 y1.f0 A1_1 c1_1 y1.f1 true W hc0_1 hl0_1 hc1_1 hl1_1 hpure).mono fun e W' ⟨he, bel0⟩ => ?_
  have bel : Below W.heap.size W W' := bel0
  subst he
  exact ⟨_, rfl, _, _, _, [], _, [], hW', trodAll_mk1 (shut_bool Try.underlying4 _), (trodAll_cons_mk (Below.trod laidOut (by kernel_rfl) (of_decide_eq_true (by kernel_rfl)) kk0 bel lt0) (trodAll_cons_mk (Below.trod laidOut (by kernel_rfl) (of_decide_eq_true (by kernel_rfl)) kk1 bel lt1) trodAll_mk0)), rfl, bel.frame _, fun h => by cases h⟩
theorem over : Rows.fnExactEqualScriptsRow.holds Try.pinned (OpenSpec.ofChange Rows.fnExactEqualScriptsSpec) :=
  OpenClaim.holds_of_wide 6 Try.f6 rfl rfl rfl rfl rfl rfl rfl ⟨rfl, rfl, rfl, rfl, rfl⟩ rfl rfl rfl rfl rfl (by kernel_rfl) Try.func6 (by kernel_rfl)
    (of_decide_eq_true (by kernel_rfl)) (by unfold Func.isWrapper; first | (rw [if_pos (by decide +kernel)]; kernel_rfl) | (rw [if_neg (by decide +kernel)]; exact ⟨rfl, rfl⟩))
    (fun os started H enc _ => lifted os started H enc)
end Go.Proofs.Ytbepcmocadakhaa.fnExactEqualScripts
namespace Go.Proofs.Ytbepcmocadakhaa
/-- The row, under a short name, for the claim. -/
theorem fnExactEqualScripts_holds : Rows.FnExactEqualScriptsSaid := fnExactEqualScripts.over
#print axioms fnExactEqualScripts_holds
end Go.Proofs.Ytbepcmocadakhaa
