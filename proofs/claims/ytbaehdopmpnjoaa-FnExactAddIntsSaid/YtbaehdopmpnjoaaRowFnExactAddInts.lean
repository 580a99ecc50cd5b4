-- Written by a program of this session, after the kit's print, with contracts by hand.
import Derived.Test.YtbaehdopmpnjoaaRows
import Derived.Test.YtbaehdopmpnjoaaOpFnExactAddInts
import Derived.Test.YtbaehdopmpnjoaaPureFnExactAddInts
import Derived.WalkKit
import Derived.ProofKit
import Derived.OpenShut
import Derived.ShutString
import Derived.ChangeOld
import Derived.Below
import Derived.SizedLaws
namespace Go.Proofs.Ytbaehdopmpnjoaa.fnExactAddInts
open Go.ChangeShapes Go.WideShapes Go.ChangeAt Go.RowKit Go.Proofs.Ytbaehdopmpnjoaa.QFnExactAddInts Go.Proofs.YtbaehdopmpnjoaaW.PrintWords Go.Proofs.Ytbaehdopmpnjoaa.OpFnExactAddInts
open Go.ChangeMaps (open_string shut_string)
set_option linter.unusedVariables false
theorem own : ownKnob Try.prog.godebug = none := by kernel_rfl
theorem laidOut : laidOutB Try.prog = true := by kernel_rfl
set_option maxRecDepth 100000 in
theorem lifted (os : Os) (started : os.Started) (H : Type) (enc : TypeId × Value → H) :
    ReturnsInHanded {} Try.checked os 9 .any (Rows.fnExactAddIntsSpec.pre6 enc Try.prog Try.f9 Rows.fnExactAddIntsRow.domain false) (Rows.fnExactAddIntsSpec.post enc Try.prog Try.f9 false true false false) := by
  refine returnsInHanded_of_change_sized (C := Try.checked) own started (by kernel_rfl) Try.func9
    (ChangeSpec.witness6 (enc := enc) (C := Try.checked) false ⟨#[], #[(.agg #[(.int .i64 0), (.int .i64 0)]), (.agg #[(.int .i64 0), (.int .i64 0)])], []⟩ 8 (by kernel_rfl) (by kernel_rfl) (by kernel_rfl) (by kernel_rfl)) ?_
  intro W base args ds gs before hval0 hW hcnd hsz0 _
  have hval : ∀ (j : Nat) t v, Try.f9.params[j]? = some t → args[j]? = some v → Value.okWide Try.prog W .any base t v := hval0
  have hW' := hW
  obtain ⟨p, q, hA0, hV, rfl, hfz, hnd⟩ := hW
  have hA : DataW.TrodAll enc Try.prog W 0 (fun _ => true) true Try.f9.params.toList args.toList ds p := hA0
  rw [Try.params9] at hA hval
  obtain ⟨v0, vs0, d0, ds0, p0, q0, hargs, rfl, rfl, h0, r0⟩ := trodAll_cons hA
  obtain ⟨v1, vs1, d1, ds1, p1, q1, rfl, rfl, rfl, h1, r1⟩ := trodAll_cons r0
  obtain ⟨rfl, rfl, rfl⟩ := trodAll_nil r1
  obtain rfl : args = #[v0, v1] := by cases args; simp_all
  obtain ⟨rfl, rfl⟩ := trodVars_none hV
  have kk0 := h0
  have lt0 : ∀ x ∈ p0, x.block < W.heap.size := by obtain ⟨m, hm⟩ := kk0; exact DataW.trod_lt m _ _ _ hm
  obtain ⟨cs0, hv0, _⟩ := okWide_struct Try.underlying43 (hval 0 43 v0 rfl rfl)
  subst hv0
  obtain ⟨y0, hk0, hg0⟩ : ∃ y : S43, k43.K W y cs0.toList ∧ G43 y := by
    obtain ⟨fuel, hf⟩ := h0
    obtain ⟨y, hk, hg⟩ := op43 _ _ _ _ _ _ _ _ _ hf
    exact ⟨y, by simpa [Value.cells] using hk, hg⟩
  have he0 := k43_open hk0
  obtain rfl : cs0 = #[.int .i64 y0.f0, .int .i64 y0.f1] := Array.toList_inj.1 (by simpa using he0)
  have kk1 := h1
  have lt1 : ∀ x ∈ p1, x.block < W.heap.size := by obtain ⟨m, hm⟩ := kk1; exact DataW.trod_lt m _ _ _ hm
  obtain ⟨cs1, hv1, _⟩ := okWide_struct Try.underlying43 (hval 1 43 v1 rfl rfl)
  subst hv1
  obtain ⟨y1, hk1, hg1⟩ : ∃ y : S43, k43.K W y cs1.toList ∧ G43 y := by
    obtain ⟨fuel, hf⟩ := h1
    obtain ⟨y, hk, hg⟩ := op43 _ _ _ _ _ _ _ _ _ hf
    exact ⟨y, by simpa [Value.cells] using hk, hg⟩
  have he1 := k43_open hk1
  obtain rfl : cs1 = #[.int .i64 y1.f0, .int .i64 y1.f1] := Array.toList_inj.1 (by simpa using he1)
  clear hA0 hval0 hsz0
  obtain ⟨k, hpure⟩ := Pure.FnExactAddInts y0 y1 hg0 hg1
  refine (QFnExactAddInts.laws_FnExactAddInts.calls k y0.f0 y0.f1 y1.f0 y1.f1 true W  hpure).mono fun e W' ⟨he, bel0⟩ => ?_
  have bel : Below W.heap.size W W' := bel0
  subst he
  exact ⟨_, rfl, _, _, _, [], _, [], hW', trodAll_mk1 (shut_bool Try.underlying4 _), (trodAll_cons_mk (Below.trod laidOut (by kernel_rfl) (of_decide_eq_true (by kernel_rfl)) kk0 bel lt0) (trodAll_cons_mk (Below.trod laidOut (by kernel_rfl) (of_decide_eq_true (by kernel_rfl)) kk1 bel lt1) trodAll_mk0)), rfl, bel.frame _, fun h => by cases h⟩
theorem over : Rows.fnExactAddIntsRow.holds Try.pinned (OpenSpec.ofChange Rows.fnExactAddIntsSpec) :=
  OpenClaim.holds_of_wide 9 Try.f9 rfl rfl rfl rfl rfl rfl rfl ⟨rfl, rfl, rfl, rfl, rfl⟩ rfl rfl rfl rfl rfl (by kernel_rfl) Try.func9 (by kernel_rfl)
    (of_decide_eq_true (by kernel_rfl)) (by unfold Func.isWrapper; first | (rw [if_pos (by decide +kernel)]; kernel_rfl) | (rw [if_neg (by decide +kernel)]; exact ⟨rfl, rfl⟩))
    (fun os started H enc _ => lifted os started H enc)
end Go.Proofs.Ytbaehdopmpnjoaa.fnExactAddInts
namespace Go.Proofs.Ytbaehdopmpnjoaa
/-- The row, under a short name, for the claim. -/
theorem fnExactAddInts_holds : Rows.FnExactAddIntsSaid := fnExactAddInts.over
#print axioms fnExactAddInts_holds
end Go.Proofs.Ytbaehdopmpnjoaa
