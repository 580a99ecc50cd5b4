-- Written by a program of this session, after the kit's print, with contracts by hand.
import Derived.Test.YtbaehdopmpnjoaaRows
import Derived.Test.YtbaehdopmpnjoaaOpFnExactEqualValues
import Derived.Test.YtbaehdopmpnjoaaPureFnExactEqualValues
import Derived.WalkKit
import Derived.ProofKit
import Derived.OpenShut
import Derived.ShutString
import Derived.ChangeOld
import Derived.Below
import Derived.SizedLaws
namespace Go.Proofs.Ytbaehdopmpnjoaa.fnExactEqualValues
open Go.ChangeShapes Go.WideShapes Go.ChangeAt Go.RowKit Go.Proofs.Ytbaehdopmpnjoaa.QFnExactEqualValues Go.Proofs.YtbaehdopmpnjoaaW.PrintWords Go.Proofs.Ytbaehdopmpnjoaa.OpFnExactEqualValues
open Go.ChangeMaps (open_string shut_string)
set_option linter.unusedVariables false
theorem own : ownKnob Try.prog.godebug = none := by kernel_rfl
theorem laidOut : laidOutB Try.prog = true := by kernel_rfl
set_option maxRecDepth 100000 in
theorem lifted (os : Os) (started : os.Started) (H : Type) (enc : TypeId × Value → H) :
    ReturnsInHanded {} Try.checked os 11 .any (Rows.fnExactEqualValuesSpec.pre6 enc Try.prog Try.f11 Rows.fnExactEqualValuesRow.domain false) (Rows.fnExactEqualValuesSpec.post enc Try.prog Try.f11 false true false false) := by
  refine returnsInHanded_of_change_sized (C := Try.checked) own started (by kernel_rfl) Try.func11
    (ChangeSpec.witness6 (enc := enc) (C := Try.checked) false ⟨#[], #[.slice none 0 0, .slice none 0 0], []⟩ 8 (by kernel_rfl) (by kernel_rfl) (by kernel_rfl) (by kernel_rfl)) ?_
  intro W base args ds gs before hval0 hW hcnd hsz0 _
  have hval : ∀ (j : Nat) t v, Try.f11.params[j]? = some t → args[j]? = some v → Value.okWide Try.prog W .any base t v := hval0
  have hW' := hW
  obtain ⟨p, q, hA0, hV, rfl, hfz, hnd⟩ := hW
  have hA : DataW.TrodAll enc Try.prog W 0 (fun _ => true) true Try.f11.params.toList args.toList ds p := hA0
  rw [Try.params11] at hA hval
  obtain ⟨v0, vs0, d0, ds0, p0, q0, hargs, rfl, rfl, h0, r0⟩ := trodAll_cons hA
  obtain ⟨v1, vs1, d1, ds1, p1, q1, rfl, rfl, rfl, h1, r1⟩ := trodAll_cons r0
  obtain ⟨rfl, rfl, rfl⟩ := trodAll_nil r1
  obtain rfl : args = #[v0, v1] := by cases args; simp_all
  obtain ⟨rfl, rfl⟩ := trodVars_none hV
  have kk0 := h0
  have lt0 : ∀ x ∈ p0, x.block < W.heap.size := by obtain ⟨m, hm⟩ := kk0; exact DataW.trod_lt m _ _ _ hm
  obtain ⟨a0, len0, cap0, hv0⟩ := okWide_slice Try.underlying50 (hval 0 50 v0 rfl rfl)
  subst hv0
  obtain ⟨y0, A0, c0, he0, hl0, hc0, hg0⟩ : ∃ (y : List (S43)) (A' : Option Addr) (c' : Nat), Value.slice a0 len0 cap0 = .slice A' y.length c' ∧ y.length ≤ c' ∧ Kd.C k43 W A' y.length y ∧ (fun xs : List (S43) => xs.length ≤ maxLen ∧ ∀ y ∈ xs, G43 y) y := by
    obtain ⟨fuel, hf⟩ := h0
    obtain ⟨y, ⟨A', c', he, hl, hc⟩, hg⟩ := (Bridge.op_slice Try.underlying50 op43 (by kernel_rfl)) _ _ _ _ _ _ _ _ _ hf
    exact ⟨y, A', c', by simpa [Value.cells] using he, hl, hc, hg⟩
  obtain ⟨rfl, rfl, rfl⟩ : a0 = A0 ∧ len0 = y0.length ∧ cap0 = c0 := by simpa using he0
  have kk1 := h1
  have lt1 : ∀ x ∈ p1, x.block < W.heap.size := by obtain ⟨m, hm⟩ := kk1; exact DataW.trod_lt m _ _ _ hm
  obtain ⟨a1, len1, cap1, hv1⟩ := okWide_slice Try.underlying50 (hval 1 50 v1 rfl rfl)
  subst hv1
  obtain ⟨y1, A1, c1, he1, hl1, hc1, hg1⟩ : ∃ (y : List (S43)) (A' : Option Addr) (c' : Nat), Value.slice a1 len1 cap1 = .slice A' y.length c' ∧ y.length ≤ c' ∧ Kd.C k43 W A' y.length y ∧ (fun xs : List (S43) => xs.length ≤ maxLen ∧ ∀ y ∈ xs, G43 y) y := by
    obtain ⟨fuel, hf⟩ := h1
    obtain ⟨y, ⟨A', c', he, hl, hc⟩, hg⟩ := (Bridge.op_slice Try.underlying50 op43 (by kernel_rfl)) _ _ _ _ _ _ _ _ _ hf
    exact ⟨y, A', c', by simpa [Value.cells] using he, hl, hc, hg⟩
  obtain ⟨rfl, rfl, rfl⟩ : a1 = A1 ∧ len1 = y1.length ∧ cap1 = c1 := by simpa using he1
  clear hA0 hval0 hsz0
  obtain ⟨k, hpure⟩ := Pure.FnExactEqualValues y0 y1 hg0 hg1
  refine (QFnExactEqualValues.laws_FnExactEqualValues.calls k _ _ y0 _ _ y1 true W hc0 hl0 hc1 hl1 hpure).mono fun e W' ⟨he, bel0⟩ => ?_
  have bel : Below W.heap.size W W' := bel0
  subst he
  exact ⟨_, rfl, _, _, _, [], _, [], hW', trodAll_mk1 (shut_bool Try.underlying4 _), (trodAll_cons_mk (Below.trod laidOut (by kernel_rfl) (of_decide_eq_true (by kernel_rfl)) kk0 bel lt0) (trodAll_cons_mk (Below.trod laidOut (by kernel_rfl) (of_decide_eq_true (by kernel_rfl)) kk1 bel lt1) trodAll_mk0)), rfl, bel.frame _, fun h => by cases h⟩
theorem over : Rows.fnExactEqualValuesRow.holds Try.pinned (OpenSpec.ofChange Rows.fnExactEqualValuesSpec) :=
  OpenClaim.holds_of_wide 11 Try.f11 rfl rfl rfl rfl rfl rfl rfl ⟨rfl, rfl, rfl, rfl, rfl⟩ rfl rfl rfl rfl rfl (by kernel_rfl) Try.func11 (by kernel_rfl)
    (of_decide_eq_true (by kernel_rfl)) (by unfold Func.isWrapper; first | (rw [if_pos (by decide +kernel)]; kernel_rfl) | (rw [if_neg (by decide +kernel)]; exact ⟨rfl, rfl⟩))
    (fun os started H enc _ => lifted os started H enc)
end Go.Proofs.Ytbaehdopmpnjoaa.fnExactEqualValues
namespace Go.Proofs.Ytbaehdopmpnjoaa
/-- The row, under a short name, for the claim. -/
theorem fnExactEqualValues_holds : Rows.FnExactEqualValuesSaid := fnExactEqualValues.over
#print axioms fnExactEqualValues_holds
end Go.Proofs.Ytbaehdopmpnjoaa
