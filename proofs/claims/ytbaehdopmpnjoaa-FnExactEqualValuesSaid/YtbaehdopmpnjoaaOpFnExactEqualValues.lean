-- Written by a program of this session, after the kit's print, with contracts by hand.
import Derived.Test.YtbaehdopmpnjoaaQFnExactEqualValuesx3
import Derived.Test.YtbaehdopmpnjoaaOpen
import Derived.KernelRfl
set_option linter.unusedVariables false
namespace Go.Proofs.Ytbaehdopmpnjoaa.OpFnExactEqualValues
open Go.RowKit Go.Proofs.Ytbaehdopmpnjoaa Go.Proofs.Ytbaehdopmpnjoaa.QFnExactEqualValues Go.Proofs.YtbaehdopmpnjoaaW.PrintWords

def G43 : S43 → Prop := fun y => ((fun z => (fun n : Int => (Lit.int .i64 n).wf = true) z.1 ∧ (fun n : Int => (Lit.int .i64 n).wf = true) z.2) : (Int) × Int → Prop) (y.f0, y.f1)
set_option maxRecDepth 100000 in
theorem op43 : Bridge.Op Try.prog 43 k43 G43 :=
  Bridge.op_struct (f := fun x : S43 => (x.f0, x.f1)) (g := fun p : (Int) × Int => (⟨p.1, p.2⟩ : S43)) Try.underlying43 (Bridge.opf_cons rfl (by kernel_rfl) (Bridge.op_int Try.underlying3) (Bridge.opf_one rfl (by kernel_rfl) (Bridge.op_int Try.underlying3))) (by kernel_rfl) (fun _ => rfl)
def Pure : Prop := ∀ (y0 : List (S43)) (y1 : List (S43)), (fun xs : List (S43) => xs.length ≤ maxLen ∧ ∀ y ∈ xs, G43 y) y0 → (fun xs : List (S43) => xs.length ≤ maxLen ∧ ∀ y ∈ xs, G43 y) y1 → ∃ k, laws_FnExactEqualValues.f k y0 y1 = some true
end Go.Proofs.Ytbaehdopmpnjoaa.OpFnExactEqualValues
