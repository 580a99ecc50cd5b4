-- Written by a program of this session, after the kit's print, with contracts by hand.
import Derived.Test.YtbepcmocadakhaaRows
import Derived.Test.YtbepcmocadakhaaOpFnExactIsLibrary
import Derived.Test.YtbepcmocadakhaaPureFnExactIsLibrary
import Derived.WalkKit
import Derived.ProofKit
import Derived.OpenShut
import Derived.ShutString
import Derived.ChangeOld
import Derived.Below
import Derived.SizedLaws
namespace Go.Proofs.Ytbepcmocadakhaa.fnExactIsLibrary
open Go.ChangeShapes Go.WideShapes Go.ChangeAt Go.RowKit Go.Proofs.Ytbepcmocadakhaa.QFnExactIsLibrary Go.Proofs.YtbepcmocadakhaaW.PrintWords Go.Proofs.Ytbepcmocadakhaa.OpFnExactIsLibrary
open Go.ChangeMaps (open_string shut_string)
set_option linter.unusedVariables false
theorem own : ownKnob Try.prog.godebug = none := by kernel_rfl
theorem laidOut : laidOutB Try.prog = true := by kernel_rfl
set_option maxRecDepth 100000 in
theorem lifted (os : Os) (started : os.Started) (H : Type) (enc : TypeId × Value → H) :
    ReturnsInHanded {} Try.checked os 10 .any (Rows.fnExactIsLibrarySpec.pre6 enc Try.prog Try.f10 Rows.fnExactIsLibraryRow.domain false) (Rows.fnExactIsLibrarySpec.post enc Try.prog Try.f10 false true false false) := by
  refine returnsInHanded_of_change_sized (C := Try.checked) own started (by kernel_rfl) Try.func10
    (ChangeSpec.witness6 (enc := enc) (C := Try.checked) false ⟨#[], #[.slice none 0 0], []⟩ 8 (by kernel_rfl) (by kernel_rfl) (by kernel_rfl) (by kernel_rfl)) ?_
  intro W base args ds gs before hval0 hW hcnd hsz0 _
  have hval : ∀ (j : Nat) t v, Try.f10.params[j]? = some t → args[j]? = some v → Value.okWide Try.prog W .any base t v := hval0
  have hW' := hW
  obtain ⟨p, q, hA0, hV, rfl, hfz, hnd⟩ := hW
  have hA : DataW.TrodAll enc Try.prog W 0 (fun _ => true) true Try.f10.params.toList args.toList ds p := hA0
  rw [Try.params10] at hA hval
  obtain ⟨v0, vs0, d0, ds0, p0, q0, hargs, rfl, rfl, h0, r0⟩ := trodAll_cons hA
  obtain ⟨rfl, rfl, rfl⟩ := trodAll_nil r0
  obtain rfl : args = #[v0] := by cases args; simp_all
  obtain ⟨rfl, rfl⟩ := trodVars_none hV
  have kk0 := h0
  have lt0 : ∀ x ∈ p0, x.block < W.heap.size := by obtain ⟨m, hm⟩ := kk0; exact DataW.trod_lt m _ _ _ hm
  obtain ⟨a0, len0, cap0, hv0⟩ := okWide_slice Try.underlying68 (hval 0 68 v0 rfl rfl)
  subst hv0
  obtain ⟨y0, A0, c0, he0, hl0, hc0, hg0⟩ : ∃ (y : List (S49)) (A' : Option Addr) (c' : Nat), Value.slice a0 len0 cap0 = .slice A' y.length c' ∧ y.length ≤ c' ∧ Kd.C k49 W A' y.length y ∧ (fun xs : List (S49) => xs.length ≤ maxLen ∧ ∀ y ∈ xs, G49 y) y := by
    obtain ⟨fuel, hf⟩ := h0
    obtain ⟨y, ⟨A', c', he, hl, hc⟩, hg⟩ := (Bridge.op_slice Try.underlying68 op49 (by kernel_rfl)) _ _ _ _ _ _ _ _ _ hf
    exact ⟨y, A', c', by simpa [Value.cells] using he, hl, hc, hg⟩
  obtain ⟨rfl, rfl, rfl⟩ : a0 = A0 ∧ len0 = y0.length ∧ cap0 = c0 := by simpa using he0
  clear hA0 hval0 hsz0
  obtain ⟨k, hpure⟩ := Pure.FnExactIsLibrary y0 hg0
  refine (QFnExactIsLibrary.laws_FnExactIsLibrary.calls k _ _ y0 true W hc0 hl0 hpure).mono fun e W' ⟨he, bel0⟩ => ?_
  have bel : Below W.heap.size W W' := bel0
  subst he
  exact ⟨_, rfl, _, _, _, [], _, [], hW', trodAll_mk1 (shut_bool Try.underlying4 _), (trodAll_cons_mk (Below.trod laidOut (by kernel_rfl) (of_decide_eq_true (by kernel_rfl)) kk0 bel lt0) trodAll_mk0), rfl, bel.frame _, fun h => by cases h⟩
theorem over : Rows.fnExactIsLibraryRow.holds Try.pinned (OpenSpec.ofChange Rows.fnExactIsLibrarySpec) :=
  OpenClaim.holds_of_wide 10 Try.f10 rfl rfl rfl rfl rfl rfl rfl ⟨rfl, rfl, rfl, rfl, rfl⟩ rfl rfl rfl rfl rfl (by kernel_rfl) Try.func10 (by kernel_rfl)
    (of_decide_eq_true (by kernel_rfl)) (by unfold Func.isWrapper; first | (rw [if_pos (by decide +kernel)]; kernel_rfl) | (rw [if_neg (by decide +kernel)]; exact ⟨rfl, rfl⟩))
    (fun os started H enc _ => lifted os started H enc)
end Go.Proofs.Ytbepcmocadakhaa.fnExactIsLibrary
namespace Go.Proofs.Ytbepcmocadakhaa
/-- The row, under a short name, for the claim. -/
theorem fnExactIsLibrary_holds : Rows.FnExactIsLibrarySaid := fnExactIsLibrary.over
#print axioms fnExactIsLibrary_holds
end Go.Proofs.Ytbepcmocadakhaa
