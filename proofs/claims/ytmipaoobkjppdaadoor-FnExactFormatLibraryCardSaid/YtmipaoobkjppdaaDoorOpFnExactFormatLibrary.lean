-- Written by a program of this session, after the kit's print, with contracts by hand.
import Derived.Test.YtmipaoobkjppdaaDoorQFnExactFormatLibraryx15
import Derived.Test.YtmipaoobkjppdaaDoorOpen
import Derived.KernelRfl
set_option linter.unusedVariables false
namespace Go.Proofs.YtmipaoobkjppdaaDoor.OpFnExactFormatLibrary
open Go.RowKit Go.Proofs.YtmipaoobkjppdaaDoor Go.Proofs.YtmipaoobkjppdaaDoor.QFnExactFormatLibrary Go.Proofs.YtmipaoobkjppdaaDoorW.PrintWords

def G34 : S34 → Prop := fun y => ((fun z => (fun n : Int => (Lit.int .i64 n).wf = true) z.1 ∧ (fun z => (fun n : Int => (Lit.int .i64 n).wf = true) z.1 ∧ (fun z => (fun n : Int => (Lit.int .i64 n).wf = true) z.1 ∧ (fun z => (fun n : Int => (Lit.int .i64 n).wf = true) z.1 ∧ (fun z => (fun n : Int => (Lit.int .i64 n).wf = true) z.1 ∧ (fun s : ByteArray => s.size ≤ maxLen) z.2) z.2) z.2) z.2) z.2) : (Int) × (Int) × (Int) × (Int) × (Int) × ByteArray → Prop) (y.f0, y.f1, y.f2, y.f3, y.f4, y.f5)
set_option maxRecDepth 100000 in
theorem op34 : Bridge.Op Tryd.prog 34 k34 G34 :=
  Bridge.op_struct (f := fun x : S34 => (x.f0, x.f1, x.f2, x.f3, x.f4, x.f5)) (g := fun p : (Int) × (Int) × (Int) × (Int) × (Int) × ByteArray => (⟨p.1, p.2.1, p.2.2.1, p.2.2.2.1, p.2.2.2.2.1, p.2.2.2.2.2⟩ : S34)) Tryd.underlying34 (Bridge.opf_cons rfl (by kernel_rfl) (Bridge.op_int Tryd.underlying3) (Bridge.opf_cons rfl (by kernel_rfl) (Bridge.op_int Tryd.underlying3) (Bridge.opf_cons rfl (by kernel_rfl) (Bridge.op_int Tryd.underlying3) (Bridge.opf_cons rfl (by kernel_rfl) (Bridge.op_int Tryd.underlying3) (Bridge.opf_cons rfl (by kernel_rfl) (Bridge.op_int Tryd.underlying3) (Bridge.opf_one rfl (by kernel_rfl) (Bridge.op_string Tryd.underlying9))))))) (by kernel_rfl) (fun _ => rfl)
def G103 : S103 → Prop := fun y => ((fun z => (fun s : ByteArray => s.size ≤ maxLen) z.1 ∧ (fun xs : List (S34) => xs.length ≤ maxLen ∧ ∀ y ∈ xs, G34 y) z.2) : (ByteArray) × List (S34) → Prop) (y.f0, y.f1)
set_option maxRecDepth 100000 in
theorem op103 : Bridge.Op Tryd.prog 103 k103 G103 :=
  Bridge.op_struct (f := fun x : S103 => (x.f0, x.f1)) (g := fun p : (ByteArray) × List (S34) => (⟨p.1, p.2⟩ : S103)) Tryd.underlying103 (Bridge.opf_cons rfl (by kernel_rfl) (Bridge.op_string Tryd.underlying9) (Bridge.opf_one rfl (by kernel_rfl) (Bridge.op_slice Tryd.underlying101 op34 (by kernel_rfl)))) (by kernel_rfl) (fun _ => rfl)
def G41 : S41 → Prop := fun y => ((fun z => (fun s : ByteArray => s.size ≤ maxLen) z.1 ∧ (fun xs : List (S103) => xs.length ≤ maxLen ∧ ∀ y ∈ xs, G103 y) z.2) : (ByteArray) × List (S103) → Prop) (y.f0, y.f1)
set_option maxRecDepth 100000 in
theorem op41 : Bridge.Op Tryd.prog 41 k41 G41 :=
  Bridge.op_struct (f := fun x : S41 => (x.f0, x.f1)) (g := fun p : (ByteArray) × List (S103) => (⟨p.1, p.2⟩ : S41)) Tryd.underlying41 (Bridge.opf_cons rfl (by kernel_rfl) (Bridge.op_string Tryd.underlying9) (Bridge.opf_one rfl (by kernel_rfl) (Bridge.op_slice Tryd.underlying39 op103 (by kernel_rfl)))) (by kernel_rfl) (fun _ => rfl)
def Pure : Prop := ∀ (y0 : List (S41)), (fun xs : List (S41) => xs.length ≤ maxLen ∧ ∀ y ∈ xs, G41 y) y0 → ∃ k, laws_FnExactFormatLibrary.f k y0 = some true
end Go.Proofs.YtmipaoobkjppdaaDoor.OpFnExactFormatLibrary
