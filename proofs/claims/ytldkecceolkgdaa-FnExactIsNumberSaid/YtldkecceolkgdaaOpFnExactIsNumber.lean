-- Written by a program of this session, after the kit's print, with contracts by hand.
import Derived.Test.YtldkecceolkgdaaQFnExactIsNumberx2
import Derived.Test.YtldkecceolkgdaaOpen
import Derived.KernelRfl
set_option linter.unusedVariables false
namespace Go.Proofs.Ytldkecceolkgdaa.OpFnExactIsNumber
open Go.RowKit Go.Proofs.Ytldkecceolkgdaa Go.Proofs.Ytldkecceolkgdaa.QFnExactIsNumber Go.Proofs.YtldkecceolkgdaaW.PrintWords

def G28 : S28 → Prop := fun y => ((fun z => (fun n : Int => (Lit.int .i64 n).wf = true) z.1 ∧ (fun n : Int => (Lit.int .i64 n).wf = true) z.2) : (Int) × Int → Prop) (y.f0, y.f1)
set_option maxRecDepth 100000 in
theorem op28 : Bridge.Op Try.prog 28 k28 G28 :=
  Bridge.op_struct (f := fun x : S28 => (x.f0, x.f1)) (g := fun p : (Int) × Int => (⟨p.1, p.2⟩ : S28)) Try.underlying28 (Bridge.opf_cons rfl (by kernel_rfl) (Bridge.op_int Try.underlying3) (Bridge.opf_one rfl (by kernel_rfl) (Bridge.op_int Try.underlying3))) (by kernel_rfl) (fun _ => rfl)
def Pure : Prop := ∀ (y0 : S28) (a1 : Int), G28 y0 → (fun n : Int => (Lit.int .i64 n).wf = true) a1 → laws_FnExactIsNumber.f y0.f0 y0.f1 a1 = some true
end Go.Proofs.Ytldkecceolkgdaa.OpFnExactIsNumber
