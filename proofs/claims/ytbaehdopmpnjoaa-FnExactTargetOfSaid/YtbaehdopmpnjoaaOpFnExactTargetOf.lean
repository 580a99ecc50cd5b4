-- Written by a program of this session, after the kit's print, with contracts by hand.
import Derived.Test.YtbaehdopmpnjoaaQFnExactTargetOfx1
import Derived.Test.YtbaehdopmpnjoaaOpen
import Derived.KernelRfl
set_option linter.unusedVariables false
namespace Go.Proofs.Ytbaehdopmpnjoaa.OpFnExactTargetOf
open Go.RowKit Go.Proofs.Ytbaehdopmpnjoaa Go.Proofs.Ytbaehdopmpnjoaa.QFnExactTargetOf Go.Proofs.YtbaehdopmpnjoaaW.PrintWords

def G32 : S32 → Prop := fun y => ((fun z => (fun n : Int => (Lit.int .i64 n).wf = true) z.1 ∧ (fun z => (fun n : Int => (Lit.int .i64 n).wf = true) z.1 ∧ (fun z => (fun n : Int => (Lit.int .i64 n).wf = true) z.1 ∧ (fun z => (fun n : Int => (Lit.int .i64 n).wf = true) z.1 ∧ (fun z => (fun n : Int => (Lit.int .i64 n).wf = true) z.1 ∧ (fun s : ByteArray => s.size ≤ maxLen) z.2) z.2) z.2) z.2) z.2) : (Int) × (Int) × (Int) × (Int) × (Int) × ByteArray → Prop) (y.f0, y.f1, y.f2, y.f3, y.f4, y.f5)
set_option maxRecDepth 100000 in
theorem op32 : Bridge.Op Try.prog 32 k32 G32 :=
  Bridge.op_struct (f := fun x : S32 => (x.f0, x.f1, x.f2, x.f3, x.f4, x.f5)) (g := fun p : (Int) × (Int) × (Int) × (Int) × (Int) × ByteArray => (⟨p.1, p.2.1, p.2.2.1, p.2.2.2.1, p.2.2.2.2.1, p.2.2.2.2.2⟩ : S32)) Try.underlying32 (Bridge.opf_cons rfl (by kernel_rfl) (Bridge.op_int Try.underlying3) (Bridge.opf_cons rfl (by kernel_rfl) (Bridge.op_int Try.underlying3) (Bridge.opf_cons rfl (by kernel_rfl) (Bridge.op_int Try.underlying3) (Bridge.opf_cons rfl (by kernel_rfl) (Bridge.op_int Try.underlying3) (Bridge.opf_cons rfl (by kernel_rfl) (Bridge.op_int Try.underlying3) (Bridge.opf_one rfl (by kernel_rfl) (Bridge.op_string Try.underlying9))))))) (by kernel_rfl) (fun _ => rfl)
def Pure : Prop := ∀ (y0 : S32), G32 y0 → laws_FnExactTargetOf.f y0.f0 y0.f1 y0.f2 y0.f3 y0.f4 y0.f5 = some true
end Go.Proofs.Ytbaehdopmpnjoaa.OpFnExactTargetOf
