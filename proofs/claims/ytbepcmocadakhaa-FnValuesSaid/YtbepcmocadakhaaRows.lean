/-
  No cell of these rows narrows 'for every input' (looked for: loops, veiled, ifaces, maps, wideKeys, modest, calm, conditions, laid).
  DERIVED. THE GIVEN ROWS OF THIS SEAT. 8 by the template 'for every input the law returns true; each argument reads behind the call as it read before'; 0 by the template 'total and deterministic' (their statements: YtbepcmocadakhaaTotals.lean).
  GIVEN WITH THE SEED: the statements are not yours to turn. If you find one false, say at which input.
  Laid BY PROGRAM, IN A SANDBOX (cutbox-rows.mjs): the forced cells as the released guide's own fill.sh prints them over the translation 5fb4a60825900184… (all of the seat's roots in one cut). By AI agents, Wed Nov 11 2026. No macro, syntax, notation, axiom, sorry.
-/
import Derived.Test.YtbepcmocadakhaaChecked
import GoSem.Claim
import GoSem.ClaimJoined
import GoSem.ClaimMapViews
import Derived.JoinedTies
import Derived.KernelRfl
namespace Go.Proofs.Ytbepcmocadakhaa
/- THE CELL 'sum', in the pinned program and in every row, IS THE sha256 OF THE DUMP (.gsa) THAT YtbepcmocadakhaaProg.lean LOADS. Nothing in Lean hashes anything: it is a label: what it is worth is what the hold of that sum in a sandbox is worth. -/
noncomputable def Try.pinned : Pinned := { name := "ytbepcmocadakhaa", sum := "5fb4a6082590018446c017f9da9a181a5acb904525a432197c210ac3a997ca58", checked := Try.checked }
namespace Rows
def none {H : Type} : Left H := { results := [], args := [] }

/-- 'laws.FnCipher': WHATEVER THE INPUT: true; the input reads as it did. -/
def fnCipherSpec : ChangeSpec := { name := "fnCipher", fn := fun _ => fun
  | [d] => { results := [.lit (.bool true)], args := [d] }
  | _ => none }
def fnCipherRow : OpenClaim := { program := "ytbepcmocadakhaa", sum := "5fb4a6082590018446c017f9da9a181a5acb904525a432197c210ac3a997ca58", func := "loop.example/g00591/laws.FnCipher", spec := "fnCipher", apart := false }
def FnCipherSaid : Prop := fnCipherRow.holds Try.pinned (OpenSpec.ofChange fnCipherSpec)

/-- ITS FALSE NEIGHBOUR: 'it returns false'. Refute it at one input. -/
def fnCipherWrong : ChangeSpec := { name := "fnCipher", fn := fun _ => fun
  | [d] => { results := [.lit (.bool false)], args := [d] }
  | _ => none }
def FnCipherWrongFalsely : Prop := fnCipherRow.holds Try.pinned (OpenSpec.ofChange fnCipherWrong)

/-- 'laws.FnVarints': WHATEVER THE INPUT: true; the input reads as it did. -/
def fnVarintsSpec : ChangeSpec := { name := "fnVarints", fn := fun _ => fun
  | [d] => { results := [.lit (.bool true)], args := [d] }
  | _ => none }
def fnVarintsRow : OpenClaim := { program := "ytbepcmocadakhaa", sum := "5fb4a6082590018446c017f9da9a181a5acb904525a432197c210ac3a997ca58", func := "loop.example/g00591/laws.FnVarints", spec := "fnVarints", apart := false }
def FnVarintsSaid : Prop := fnVarintsRow.holds Try.pinned (OpenSpec.ofChange fnVarintsSpec)

/-- ITS FALSE NEIGHBOUR: 'it returns false'. Refute it at one input. -/
def fnVarintsWrong : ChangeSpec := { name := "fnVarints", fn := fun _ => fun
  | [d] => { results := [.lit (.bool false)], args := [d] }
  | _ => none }
def FnVarintsWrongFalsely : Prop := fnVarintsRow.holds Try.pinned (OpenSpec.ofChange fnVarintsWrong)

/-- 'laws.FnValues': WHATEVER THE INPUT: true; the input reads as it did. -/
def fnValuesSpec : ChangeSpec := { name := "fnValues", fn := fun _ => fun
  | [d] => { results := [.lit (.bool true)], args := [d] }
  | _ => none }
def fnValuesRow : OpenClaim := { program := "ytbepcmocadakhaa", sum := "5fb4a6082590018446c017f9da9a181a5acb904525a432197c210ac3a997ca58", func := "loop.example/g00591/laws.FnValues", spec := "fnValues", unfollowed := true, recurses := true, apart := false }
def FnValuesSaid : Prop := fnValuesRow.holds Try.pinned (OpenSpec.ofChange fnValuesSpec)

/-- ITS FALSE NEIGHBOUR: 'it returns false'. Refute it at one input. -/
def fnValuesWrong : ChangeSpec := { name := "fnValues", fn := fun _ => fun
  | [d] => { results := [.lit (.bool false)], args := [d] }
  | _ => none }
def FnValuesWrongFalsely : Prop := fnValuesRow.holds Try.pinned (OpenSpec.ofChange fnValuesWrong)

/-- 'laws.FnExactEqualScripts': WHATEVER THE INPUT: true; the input reads as it did. -/
def fnExactEqualScriptsSpec : ChangeSpec := { name := "fnExactEqualScripts", fn := fun _ => fun
  | [d1, d2] => { results := [.lit (.bool true)], args := [d1, d2] }
  | _ => none }
def fnExactEqualScriptsRow : OpenClaim := { program := "ytbepcmocadakhaa", sum := "5fb4a6082590018446c017f9da9a181a5acb904525a432197c210ac3a997ca58", func := "loop.example/g00591/laws.FnExactEqualScripts", spec := "fnExactEqualScripts", unfollowed := true, recurses := true, apart := false }
def FnExactEqualScriptsSaid : Prop := fnExactEqualScriptsRow.holds Try.pinned (OpenSpec.ofChange fnExactEqualScriptsSpec)

/-- ITS FALSE NEIGHBOUR: 'it returns false'. Refute it at one input. -/
def fnExactEqualScriptsWrong : ChangeSpec := { name := "fnExactEqualScripts", fn := fun _ => fun
  | [d1, d2] => { results := [.lit (.bool false)], args := [d1, d2] }
  | _ => none }
def FnExactEqualScriptsWrongFalsely : Prop := fnExactEqualScriptsRow.holds Try.pinned (OpenSpec.ofChange fnExactEqualScriptsWrong)

/-- 'laws.FnExactIsMethod': WHATEVER THE INPUT: true; the input reads as it did. -/
def fnExactIsMethodSpec : ChangeSpec := { name := "fnExactIsMethod", fn := fun _ => fun
  | [d] => { results := [.lit (.bool true)], args := [d] }
  | _ => none }
def fnExactIsMethodRow : OpenClaim := { program := "ytbepcmocadakhaa", sum := "5fb4a6082590018446c017f9da9a181a5acb904525a432197c210ac3a997ca58", func := "loop.example/g00591/laws.FnExactIsMethod", spec := "fnExactIsMethod", unfollowed := true, recurses := true, apart := false }
def FnExactIsMethodSaid : Prop := fnExactIsMethodRow.holds Try.pinned (OpenSpec.ofChange fnExactIsMethodSpec)

/-- ITS FALSE NEIGHBOUR: 'it returns false'. Refute it at one input. -/
def fnExactIsMethodWrong : ChangeSpec := { name := "fnExactIsMethod", fn := fun _ => fun
  | [d] => { results := [.lit (.bool false)], args := [d] }
  | _ => none }
def FnExactIsMethodWrongFalsely : Prop := fnExactIsMethodRow.holds Try.pinned (OpenSpec.ofChange fnExactIsMethodWrong)

/-- 'laws.FnExactFindScript': WHATEVER THE INPUT: true; the input reads as it did. -/
def fnExactFindScriptSpec : ChangeSpec := { name := "fnExactFindScript", fn := fun _ => fun
  | [d1, d2] => { results := [.lit (.bool true)], args := [d1, d2] }
  | _ => none }
def fnExactFindScriptRow : OpenClaim := { program := "ytbepcmocadakhaa", sum := "5fb4a6082590018446c017f9da9a181a5acb904525a432197c210ac3a997ca58", func := "loop.example/g00591/laws.FnExactFindScript", spec := "fnExactFindScript", unfollowed := true, recurses := true, apart := false }
def FnExactFindScriptSaid : Prop := fnExactFindScriptRow.holds Try.pinned (OpenSpec.ofChange fnExactFindScriptSpec)

/-- ITS FALSE NEIGHBOUR: 'it returns false'. Refute it at one input. -/
def fnExactFindScriptWrong : ChangeSpec := { name := "fnExactFindScript", fn := fun _ => fun
  | [d1, d2] => { results := [.lit (.bool false)], args := [d1, d2] }
  | _ => none }
def FnExactFindScriptWrongFalsely : Prop := fnExactFindScriptRow.holds Try.pinned (OpenSpec.ofChange fnExactFindScriptWrong)

/-- 'laws.FnExactIsScript': WHATEVER THE INPUT: true; the input reads as it did. -/
def fnExactIsScriptSpec : ChangeSpec := { name := "fnExactIsScript", fn := fun _ => fun
  | [d] => { results := [.lit (.bool true)], args := [d] }
  | _ => none }
def fnExactIsScriptRow : OpenClaim := { program := "ytbepcmocadakhaa", sum := "5fb4a6082590018446c017f9da9a181a5acb904525a432197c210ac3a997ca58", func := "loop.example/g00591/laws.FnExactIsScript", spec := "fnExactIsScript", unfollowed := true, recurses := true, apart := false }
def FnExactIsScriptSaid : Prop := fnExactIsScriptRow.holds Try.pinned (OpenSpec.ofChange fnExactIsScriptSpec)

/-- ITS FALSE NEIGHBOUR: 'it returns false'. Refute it at one input. -/
def fnExactIsScriptWrong : ChangeSpec := { name := "fnExactIsScript", fn := fun _ => fun
  | [d] => { results := [.lit (.bool false)], args := [d] }
  | _ => none }
def FnExactIsScriptWrongFalsely : Prop := fnExactIsScriptRow.holds Try.pinned (OpenSpec.ofChange fnExactIsScriptWrong)

/-- 'laws.FnExactIsLibrary': WHATEVER THE INPUT: true; the input reads as it did. -/
def fnExactIsLibrarySpec : ChangeSpec := { name := "fnExactIsLibrary", fn := fun _ => fun
  | [d] => { results := [.lit (.bool true)], args := [d] }
  | _ => none }
def fnExactIsLibraryRow : OpenClaim := { program := "ytbepcmocadakhaa", sum := "5fb4a6082590018446c017f9da9a181a5acb904525a432197c210ac3a997ca58", func := "loop.example/g00591/laws.FnExactIsLibrary", spec := "fnExactIsLibrary", unfollowed := true, recurses := true, apart := false }
def FnExactIsLibrarySaid : Prop := fnExactIsLibraryRow.holds Try.pinned (OpenSpec.ofChange fnExactIsLibrarySpec)

/-- ITS FALSE NEIGHBOUR: 'it returns false'. Refute it at one input. -/
def fnExactIsLibraryWrong : ChangeSpec := { name := "fnExactIsLibrary", fn := fun _ => fun
  | [d] => { results := [.lit (.bool false)], args := [d] }
  | _ => none }
def FnExactIsLibraryWrongFalsely : Prop := fnExactIsLibraryRow.holds Try.pinned (OpenSpec.ofChange fnExactIsLibraryWrong)

/- THE SECOND FORM. 'bulk': how many values and letters a reading holds, each counted each time it is reached (what is shared counts as often as it is met; a slice's spare places count too). A statement '..UptoSaid' is the law's where the arguments, and the package variables that the reading takes, are together of bulk at most 1048576: NARROWER than '..Said'. Prove '..Said' where nothing that the law and all that it calls make is longer than what came in: it says more and counts as full. Else prove '..UptoSaid'. A law counts once. -/
mutual
def uptoBulk {H : Type} : DataW H → Nat
  | .lit (.string bytes) => bytes.length + 1
  | .lit _ => 1
  | .nil => 1
  | .ptr d => uptoBulk d + 1
  | .slice elems spare => uptoBulkAll elems + uptoBulkAll spare + 1
  | .agg parts => uptoBulkAll parts + 1
  | .iface _ d => uptoBulk d + 1
  | .map entries => uptoBulkEntries entries + 1
  | .held _ => 1
def uptoBulkAll {H : Type} : List (DataW H) → Nat
  | [] => 0
  | d :: r => uptoBulk d + uptoBulkAll r
def uptoBulkEntries {H : Type} : List (Lit × DataW H) → Nat
  | [] => 0
  | x :: r => uptoBulkEntry x + uptoBulkEntries r
def uptoBulkEntry {H : Type} : Lit × DataW H → Nat
  | (.string bytes, d) => bytes.length + uptoBulk d + 1
  | (_, d) => uptoBulk d + 1
 end
def uptoSmall : (H : Type) → List (DataW H) → Bool := fun _ ds => decide (uptoBulkAll ds ≤ 1048576)
def OpenSpec.upto (s : _root_.Go.ChangeSpec) : _root_.Go.OpenSpec := { _root_.Go.OpenSpec.ofChange s with cond := some uptoSmall }

/-- 'laws.FnCipher', WHERE WHAT IT READS IS OF BULK AT MOST 1048576: true; the input reads as it did. -/
def fnCipherUptoRow : OpenClaim := { program := "ytbepcmocadakhaa", sum := "5fb4a6082590018446c017f9da9a181a5acb904525a432197c210ac3a997ca58", func := "loop.example/g00591/laws.FnCipher", spec := "fnCipher", apart := false, narrowed := true }
def FnCipherUptoSaid : Prop := fnCipherUptoRow.holds Try.pinned (OpenSpec.upto fnCipherSpec)

/-- 'laws.FnVarints', WHERE WHAT IT READS IS OF BULK AT MOST 1048576: true; the input reads as it did. -/
def fnVarintsUptoRow : OpenClaim := { program := "ytbepcmocadakhaa", sum := "5fb4a6082590018446c017f9da9a181a5acb904525a432197c210ac3a997ca58", func := "loop.example/g00591/laws.FnVarints", spec := "fnVarints", apart := false, narrowed := true }
def FnVarintsUptoSaid : Prop := fnVarintsUptoRow.holds Try.pinned (OpenSpec.upto fnVarintsSpec)

/-- 'laws.FnValues', WHERE WHAT IT READS IS OF BULK AT MOST 1048576: true; the input reads as it did. -/
def fnValuesUptoRow : OpenClaim := { program := "ytbepcmocadakhaa", sum := "5fb4a6082590018446c017f9da9a181a5acb904525a432197c210ac3a997ca58", func := "loop.example/g00591/laws.FnValues", spec := "fnValues", unfollowed := true, recurses := true, apart := false, narrowed := true }
def FnValuesUptoSaid : Prop := fnValuesUptoRow.holds Try.pinned (OpenSpec.upto fnValuesSpec)

/-- 'laws.FnExactEqualScripts', WHERE WHAT IT READS IS OF BULK AT MOST 1048576: true; the input reads as it did. -/
def fnExactEqualScriptsUptoRow : OpenClaim := { program := "ytbepcmocadakhaa", sum := "5fb4a6082590018446c017f9da9a181a5acb904525a432197c210ac3a997ca58", func := "loop.example/g00591/laws.FnExactEqualScripts", spec := "fnExactEqualScripts", unfollowed := true, recurses := true, apart := false, narrowed := true }
def FnExactEqualScriptsUptoSaid : Prop := fnExactEqualScriptsUptoRow.holds Try.pinned (OpenSpec.upto fnExactEqualScriptsSpec)

/-- 'laws.FnExactIsMethod', WHERE WHAT IT READS IS OF BULK AT MOST 1048576: true; the input reads as it did. -/
def fnExactIsMethodUptoRow : OpenClaim := { program := "ytbepcmocadakhaa", sum := "5fb4a6082590018446c017f9da9a181a5acb904525a432197c210ac3a997ca58", func := "loop.example/g00591/laws.FnExactIsMethod", spec := "fnExactIsMethod", unfollowed := true, recurses := true, apart := false, narrowed := true }
def FnExactIsMethodUptoSaid : Prop := fnExactIsMethodUptoRow.holds Try.pinned (OpenSpec.upto fnExactIsMethodSpec)

/-- 'laws.FnExactFindScript', WHERE WHAT IT READS IS OF BULK AT MOST 1048576: true; the input reads as it did. -/
def fnExactFindScriptUptoRow : OpenClaim := { program := "ytbepcmocadakhaa", sum := "5fb4a6082590018446c017f9da9a181a5acb904525a432197c210ac3a997ca58", func := "loop.example/g00591/laws.FnExactFindScript", spec := "fnExactFindScript", unfollowed := true, recurses := true, apart := false, narrowed := true }
def FnExactFindScriptUptoSaid : Prop := fnExactFindScriptUptoRow.holds Try.pinned (OpenSpec.upto fnExactFindScriptSpec)

/-- 'laws.FnExactIsScript', WHERE WHAT IT READS IS OF BULK AT MOST 1048576: true; the input reads as it did. -/
def fnExactIsScriptUptoRow : OpenClaim := { program := "ytbepcmocadakhaa", sum := "5fb4a6082590018446c017f9da9a181a5acb904525a432197c210ac3a997ca58", func := "loop.example/g00591/laws.FnExactIsScript", spec := "fnExactIsScript", unfollowed := true, recurses := true, apart := false, narrowed := true }
def FnExactIsScriptUptoSaid : Prop := fnExactIsScriptUptoRow.holds Try.pinned (OpenSpec.upto fnExactIsScriptSpec)

/-- 'laws.FnExactIsLibrary', WHERE WHAT IT READS IS OF BULK AT MOST 1048576: true; the input reads as it did. -/
def fnExactIsLibraryUptoRow : OpenClaim := { program := "ytbepcmocadakhaa", sum := "5fb4a6082590018446c017f9da9a181a5acb904525a432197c210ac3a997ca58", func := "loop.example/g00591/laws.FnExactIsLibrary", spec := "fnExactIsLibrary", unfollowed := true, recurses := true, apart := false, narrowed := true }
def FnExactIsLibraryUptoSaid : Prop := fnExactIsLibraryUptoRow.holds Try.pinned (OpenSpec.upto fnExactIsLibrarySpec)

end Rows
end Go.Proofs.Ytbepcmocadakhaa
