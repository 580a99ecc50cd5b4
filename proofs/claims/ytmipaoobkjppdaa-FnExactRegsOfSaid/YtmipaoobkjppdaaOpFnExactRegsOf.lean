-- Written by a program of this session, after the kit's print, with contracts by hand.
import Derived.Test.YtmipaoobkjppdaaQFnExactRegsOfx3
import Derived.Test.YtmipaoobkjppdaaOpen
import Derived.KernelRfl
set_option linter.unusedVariables false
namespace Go.Proofs.Ytmipaoobkjppdaa.OpFnExactRegsOf
open Go.RowKit Go.Proofs.Ytmipaoobkjppdaa Go.Proofs.Ytmipaoobkjppdaa.QFnExactRegsOf Go.Proofs.YtmipaoobkjppdaaW.PrintWords

def G23 : S23 → Prop := fun y => ((fun z => (fun n : Int => (Lit.int .i64 n).wf = true) z.1 ∧ (fun z => (fun n : Int => (Lit.int .i64 n).wf = true) z.1 ∧ (fun z => (fun n : Int => (Lit.int .i64 n).wf = true) z.1 ∧ (fun z => (fun n : Int => (Lit.int .i64 n).wf = true) z.1 ∧ (fun z => (fun n : Int => (Lit.int .i64 n).wf = true) z.1 ∧ (fun s : ByteArray => s.size ≤ maxLen) z.2) z.2) z.2) z.2) z.2) : (Int) × (Int) × (Int) × (Int) × (Int) × ByteArray → Prop) (y.f0, y.f1, y.f2, y.f3, y.f4, y.f5)
set_option maxRecDepth 100000 in
theorem op23 : Bridge.Op Try.prog 23 k23 G23 :=
  Bridge.op_struct (f := fun x : S23 => (x.f0, x.f1, x.f2, x.f3, x.f4, x.f5)) (g := fun p : (Int) × (Int) × (Int) × (Int) × (Int) × ByteArray => (⟨p.1, p.2.1, p.2.2.1, p.2.2.2.1, p.2.2.2.2.1, p.2.2.2.2.2⟩ : S23)) Try.underlying23 (Bridge.opf_cons rfl (by kernel_rfl) (Bridge.op_int Try.underlying3) (Bridge.opf_cons rfl (by kernel_rfl) (Bridge.op_int Try.underlying3) (Bridge.opf_cons rfl (by kernel_rfl) (Bridge.op_int Try.underlying3) (Bridge.opf_cons rfl (by kernel_rfl) (Bridge.op_int Try.underlying3) (Bridge.opf_cons rfl (by kernel_rfl) (Bridge.op_int Try.underlying3) (Bridge.opf_one rfl (by kernel_rfl) (Bridge.op_string Try.underlying9))))))) (by kernel_rfl) (fun _ => rfl)
def Pure : Prop := ∀ (y0 : S23), G23 y0 → ∃ k, laws_FnExactRegsOf.f k y0.f0 y0.f1 y0.f2 y0.f3 y0.f4 y0.f5 = some true
end Go.Proofs.Ytmipaoobkjppdaa.OpFnExactRegsOf
