-- Written by a program of this session, after the kit's print, with contracts by hand.
import Derived.Test.YtgggflbmcmalfaaQFnExactEndsx2
import Derived.Test.YtgggflbmcmalfaaOpen
import Derived.KernelRfl
set_option linter.unusedVariables false
namespace Go.Proofs.Ytgggflbmcmalfaa.OpFnExactEnds
open Go.RowKit Go.Proofs.Ytgggflbmcmalfaa Go.Proofs.Ytgggflbmcmalfaa.QFnExactEnds Go.Proofs.YtgggflbmcmalfaaW.PrintWords

def G47 : S47 → Prop := fun y => ((fun z => (fun n : Int => (Lit.int .i64 n).wf = true) z.1 ∧ (fun z => (fun n : Int => (Lit.int .i64 n).wf = true) z.1 ∧ (fun z => (fun n : Int => (Lit.int .i64 n).wf = true) z.1 ∧ (fun z => (fun n : Int => (Lit.int .i64 n).wf = true) z.1 ∧ (fun z => (fun n : Int => (Lit.int .i64 n).wf = true) z.1 ∧ (fun s : ByteArray => s.size ≤ maxLen) z.2) z.2) z.2) z.2) z.2) : (Int) × (Int) × (Int) × (Int) × (Int) × ByteArray → Prop) (y.f0, y.f1, y.f2, y.f3, y.f4, y.f5)
set_option maxRecDepth 100000 in
theorem op47 : Bridge.Op Try.prog 47 k47 G47 :=
  Bridge.op_struct (f := fun x : S47 => (x.f0, x.f1, x.f2, x.f3, x.f4, x.f5)) (g := fun p : (Int) × (Int) × (Int) × (Int) × (Int) × ByteArray => (⟨p.1, p.2.1, p.2.2.1, p.2.2.2.1, p.2.2.2.2.1, p.2.2.2.2.2⟩ : S47)) Try.underlying47 (Bridge.opf_cons rfl (by kernel_rfl) (Bridge.op_int Try.underlying3) (Bridge.opf_cons rfl (by kernel_rfl) (Bridge.op_int Try.underlying3) (Bridge.opf_cons rfl (by kernel_rfl) (Bridge.op_int Try.underlying3) (Bridge.opf_cons rfl (by kernel_rfl) (Bridge.op_int Try.underlying3) (Bridge.opf_cons rfl (by kernel_rfl) (Bridge.op_int Try.underlying3) (Bridge.opf_one rfl (by kernel_rfl) (Bridge.op_string Try.underlying9))))))) (by kernel_rfl) (fun _ => rfl)
def G55 : S55 → Prop := fun y => ((fun z => (fun s : ByteArray => s.size ≤ maxLen) z.1 ∧ (fun xs : List (S47) => xs.length ≤ maxLen ∧ ∀ y ∈ xs, G47 y) z.2) : (ByteArray) × List (S47) → Prop) (y.f0, y.f1)
set_option maxRecDepth 100000 in
theorem op55 : Bridge.Op Try.prog 55 k55 G55 :=
  Bridge.op_struct (f := fun x : S55 => (x.f0, x.f1)) (g := fun p : (ByteArray) × List (S47) => (⟨p.1, p.2⟩ : S55)) Try.underlying55 (Bridge.opf_cons rfl (by kernel_rfl) (Bridge.op_string Try.underlying9) (Bridge.opf_one rfl (by kernel_rfl) (Bridge.op_slice Try.underlying53 op47 (by kernel_rfl)))) (by kernel_rfl) (fun _ => rfl)
def Pure : Prop := ∀ (y0 : S55), G55 y0 → ∃ k, laws_FnExactEnds.f k y0.f0 y0.f1 = some true
end Go.Proofs.Ytgggflbmcmalfaa.OpFnExactEnds
