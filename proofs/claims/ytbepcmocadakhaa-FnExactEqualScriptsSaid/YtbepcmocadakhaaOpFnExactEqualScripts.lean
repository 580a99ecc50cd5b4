-- Written by a program of this session, after the kit's print, with contracts by hand.
import Derived.Test.YtbepcmocadakhaaQFnExactEqualScriptsx7
import Derived.Test.YtbepcmocadakhaaOpen
import Derived.KernelRfl
set_option linter.unusedVariables false
namespace Go.Proofs.Ytbepcmocadakhaa.OpFnExactEqualScripts
open Go.RowKit Go.Proofs.Ytbepcmocadakhaa Go.Proofs.Ytbepcmocadakhaa.QFnExactEqualScripts Go.Proofs.YtbepcmocadakhaaW.PrintWords

def G115 : S115 → Prop := fun y => ((fun z => (fun n : Int => (Lit.int .i64 n).wf = true) z.1 ∧ (fun z => (fun n : Int => (Lit.int .i64 n).wf = true) z.1 ∧ (fun z => (fun n : Int => (Lit.int .i64 n).wf = true) z.1 ∧ (fun z => (fun n : Int => (Lit.int .i64 n).wf = true) z.1 ∧ (fun z => (fun n : Int => (Lit.int .i64 n).wf = true) z.1 ∧ (fun s : ByteArray => s.size ≤ maxLen) z.2) z.2) z.2) z.2) z.2) : (Int) × (Int) × (Int) × (Int) × (Int) × ByteArray → Prop) (y.f0, y.f1, y.f2, y.f3, y.f4, y.f5)
set_option maxRecDepth 100000 in
theorem op115 : Bridge.Op Try.prog 115 k115 G115 :=
  Bridge.op_struct (f := fun x : S115 => (x.f0, x.f1, x.f2, x.f3, x.f4, x.f5)) (g := fun p : (Int) × (Int) × (Int) × (Int) × (Int) × ByteArray => (⟨p.1, p.2.1, p.2.2.1, p.2.2.2.1, p.2.2.2.2.1, p.2.2.2.2.2⟩ : S115)) Try.underlying115 (Bridge.opf_cons rfl (by kernel_rfl) (Bridge.op_int Try.underlying3) (Bridge.opf_cons rfl (by kernel_rfl) (Bridge.op_int Try.underlying3) (Bridge.opf_cons rfl (by kernel_rfl) (Bridge.op_int Try.underlying3) (Bridge.opf_cons rfl (by kernel_rfl) (Bridge.op_int Try.underlying3) (Bridge.opf_cons rfl (by kernel_rfl) (Bridge.op_int Try.underlying3) (Bridge.opf_one rfl (by kernel_rfl) (Bridge.op_string Try.underlying9))))))) (by kernel_rfl) (fun _ => rfl)
def G59 : S59 → Prop := fun y => ((fun z => (fun s : ByteArray => s.size ≤ maxLen) z.1 ∧ (fun xs : List (S115) => xs.length ≤ maxLen ∧ ∀ y ∈ xs, G115 y) z.2) : (ByteArray) × List (S115) → Prop) (y.f0, y.f1)
set_option maxRecDepth 100000 in
theorem op59 : Bridge.Op Try.prog 59 k59 G59 :=
  Bridge.op_struct (f := fun x : S59 => (x.f0, x.f1)) (g := fun p : (ByteArray) × List (S115) => (⟨p.1, p.2⟩ : S59)) Try.underlying59 (Bridge.opf_cons rfl (by kernel_rfl) (Bridge.op_string Try.underlying9) (Bridge.opf_one rfl (by kernel_rfl) (Bridge.op_slice Try.underlying57 op115 (by kernel_rfl)))) (by kernel_rfl) (fun _ => rfl)
def G49 : S49 → Prop := fun y => ((fun z => (fun s : ByteArray => s.size ≤ maxLen) z.1 ∧ (fun xs : List (S59) => xs.length ≤ maxLen ∧ ∀ y ∈ xs, G59 y) z.2) : (ByteArray) × List (S59) → Prop) (y.f0, y.f1)
set_option maxRecDepth 100000 in
theorem op49 : Bridge.Op Try.prog 49 k49 G49 :=
  Bridge.op_struct (f := fun x : S49 => (x.f0, x.f1)) (g := fun p : (ByteArray) × List (S59) => (⟨p.1, p.2⟩ : S49)) Try.underlying49 (Bridge.opf_cons rfl (by kernel_rfl) (Bridge.op_string Try.underlying9) (Bridge.opf_one rfl (by kernel_rfl) (Bridge.op_slice Try.underlying47 op59 (by kernel_rfl)))) (by kernel_rfl) (fun _ => rfl)
def Pure : Prop := ∀ (y0 : S49) (y1 : S49), G49 y0 → G49 y1 → ∃ k, laws_FnExactEqualScripts.f k y0.f0 y0.f1 y1.f0 y1.f1 = some true
end Go.Proofs.Ytbepcmocadakhaa.OpFnExactEqualScripts
