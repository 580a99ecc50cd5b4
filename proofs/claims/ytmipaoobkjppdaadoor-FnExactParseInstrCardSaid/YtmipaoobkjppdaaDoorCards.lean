/-
  DERIVED. GIVEN WITH THE SEED: THE CARDS: each row of YtmipaoobkjppdaaDoorRows.lean that lists a variable, with what it lists TIED to the program's text (the seventh form; the later family's looks); each row that meets fmt, with fmt's text TOLD by the authors' own Lean function (tested against real Go, not proved from fmt's source: count such statements apart). THE CARD IS WHAT COUNTS. Prove the row's statement (the work); the ties are given (YtmipaoobkjppdaaDoorTie.lean); close each card by the builder's one call (the guide's Derived/Test/ToyasCard.lean, 'card_holds'). Laid BY PROGRAM, IN A SANDBOX (cutbox-door.mjs). By AI agents, Wed Nov 11 2026. No macro, syntax, notation, axiom, sorry.
-/
import Derived.Test.YtmipaoobkjppdaaDoorRows
import GoSem.ClaimSeven
namespace Go.Proofs.YtmipaoobkjppdaaDoor
namespace Rows

/-- THE TIED CARD OF 'laws.FnExactOpName'. -/
def fnExactOpNameCard : Claim7 := { stood := { row := fnExactOpNameRow, standIns := [], harness := (true, "a7b693c74817f2ce0561add2143673c76e966986bcca0c7db15f1d62bb8073d7"), looks := true }, kinds := [], alts := [], laidByText := true, laidKinds := [.widerDeep], laidTests := true, laidLooks := .later }
def FnExactOpNameCardSaid : Prop := Claim7.holds Tryd.pinned (.plain (OpenSpec.ofChange fnExactOpNameSpec)) fnExactOpNameCard

/-- THE TIED CARD OF 'laws.FnInstructions'. -/
def fnInstructionsCard : Claim7 := { stood := { row := fnInstructionsRow, standIns := [], harness := (true, "a7b693c74817f2ce0561add2143673c76e966986bcca0c7db15f1d62bb8073d7"), looks := true }, kinds := [], alts := [], laidByText := true, laidKinds := [.widerDeep], laidTests := true, laidLooks := .later }
def FnInstructionsCardSaid : Prop := Claim7.holds Tryd.pinned (.plain (OpenSpec.ofChange fnInstructionsSpec)) fnInstructionsCard

/-- THE TIED CARD OF 'laws.FnExactFormatInstr'. -/
def fnExactFormatInstrCard : Claim7 := { stood := { row := fnExactFormatInstrRow, standIns := [], harness := (true, "a7b693c74817f2ce0561add2143673c76e966986bcca0c7db15f1d62bb8073d7"), looks := true }, kinds := [], alts := [], laidByText := true, laidKinds := [.data, .data, .data, .widerDeep], laidTests := true, laidLooks := .later }
def FnExactFormatInstrCardSaid : Prop := Claim7.holds Tryd.pinned (.plain (OpenSpec.ofChange fnExactFormatInstrSpec)) fnExactFormatInstrCard

/-- THE TIED CARD OF 'laws.FnExactFormatScript'. -/
def fnExactFormatScriptCard : Claim7 := { stood := { row := fnExactFormatScriptRow, standIns := [], harness := (true, "a7b693c74817f2ce0561add2143673c76e966986bcca0c7db15f1d62bb8073d7"), looks := true }, kinds := [], alts := [], laidByText := true, laidKinds := [.data, .data, .data, .widerDeep], laidTests := true, laidLooks := .later }
def FnExactFormatScriptCardSaid : Prop := Claim7.holds Tryd.pinned (.plain (OpenSpec.ofChange fnExactFormatScriptSpec)) fnExactFormatScriptCard

/-- THE TIED CARD OF 'laws.FnExactFormatLibrary'. -/
def fnExactFormatLibraryCard : Claim7 := { stood := { row := fnExactFormatLibraryRow, standIns := [], harness := (true, "a7b693c74817f2ce0561add2143673c76e966986bcca0c7db15f1d62bb8073d7"), looks := true }, kinds := [], alts := [], laidByText := true, laidKinds := [.data, .data, .data, .widerDeep], laidTests := true, laidLooks := .later }
def FnExactFormatLibraryCardSaid : Prop := Claim7.holds Tryd.pinned (.plain (OpenSpec.ofChange fnExactFormatLibrarySpec)) fnExactFormatLibraryCard

/-- THE TIED CARD OF 'laws.FnExactParseInstr'. -/
def fnExactParseInstrCard : Claim7 := { stood := { row := fnExactParseInstrRow, standIns := [], harness := (true, "a7b693c74817f2ce0561add2143673c76e966986bcca0c7db15f1d62bb8073d7"), looks := true }, kinds := [], alts := [], laidByText := true, laidKinds := [.data, .data, .data, .data, .sentinel, .sentinel, .widerDeep, .pinned], laidTests := true, laidLooks := .later }
def FnExactParseInstrCardSaid : Prop := Claim7.holds Tryd.pinned (.plain (OpenSpec.ofChange fnExactParseInstrSpec)) fnExactParseInstrCard

/-- THE SECOND FORM's CARD OF 'laws.FnExactOpName'. -/
def fnExactOpNameUptoCard : Claim7 := { stood := { row := fnExactOpNameUptoRow, standIns := [], harness := (true, "a7b693c74817f2ce0561add2143673c76e966986bcca0c7db15f1d62bb8073d7"), looks := true }, kinds := [], alts := [], laidByText := true, laidKinds := [.widerDeep], laidTests := true, laidLooks := .later }
def FnExactOpNameUptoCardSaid : Prop := Claim7.holds Tryd.pinned (.plain (OpenSpec.upto fnExactOpNameSpec)) fnExactOpNameUptoCard

/-- THE SECOND FORM's CARD OF 'laws.FnInstructions'. -/
def fnInstructionsUptoCard : Claim7 := { stood := { row := fnInstructionsUptoRow, standIns := [], harness := (true, "a7b693c74817f2ce0561add2143673c76e966986bcca0c7db15f1d62bb8073d7"), looks := true }, kinds := [], alts := [], laidByText := true, laidKinds := [.widerDeep], laidTests := true, laidLooks := .later }
def FnInstructionsUptoCardSaid : Prop := Claim7.holds Tryd.pinned (.plain (OpenSpec.upto fnInstructionsSpec)) fnInstructionsUptoCard

/-- THE SECOND FORM's CARD OF 'laws.FnExactFormatInstr'. -/
def fnExactFormatInstrUptoCard : Claim7 := { stood := { row := fnExactFormatInstrUptoRow, standIns := [], harness := (true, "a7b693c74817f2ce0561add2143673c76e966986bcca0c7db15f1d62bb8073d7"), looks := true }, kinds := [], alts := [], laidByText := true, laidKinds := [.data, .data, .data, .widerDeep], laidTests := true, laidLooks := .later }
def FnExactFormatInstrUptoCardSaid : Prop := Claim7.holds Tryd.pinned (.plain (OpenSpec.upto fnExactFormatInstrSpec)) fnExactFormatInstrUptoCard

/-- THE SECOND FORM's CARD OF 'laws.FnExactFormatScript'. -/
def fnExactFormatScriptUptoCard : Claim7 := { stood := { row := fnExactFormatScriptUptoRow, standIns := [], harness := (true, "a7b693c74817f2ce0561add2143673c76e966986bcca0c7db15f1d62bb8073d7"), looks := true }, kinds := [], alts := [], laidByText := true, laidKinds := [.data, .data, .data, .widerDeep], laidTests := true, laidLooks := .later }
def FnExactFormatScriptUptoCardSaid : Prop := Claim7.holds Tryd.pinned (.plain (OpenSpec.upto fnExactFormatScriptSpec)) fnExactFormatScriptUptoCard

/-- THE SECOND FORM's CARD OF 'laws.FnExactFormatLibrary'. -/
def fnExactFormatLibraryUptoCard : Claim7 := { stood := { row := fnExactFormatLibraryUptoRow, standIns := [], harness := (true, "a7b693c74817f2ce0561add2143673c76e966986bcca0c7db15f1d62bb8073d7"), looks := true }, kinds := [], alts := [], laidByText := true, laidKinds := [.data, .data, .data, .widerDeep], laidTests := true, laidLooks := .later }
def FnExactFormatLibraryUptoCardSaid : Prop := Claim7.holds Tryd.pinned (.plain (OpenSpec.upto fnExactFormatLibrarySpec)) fnExactFormatLibraryUptoCard

/-- THE SECOND FORM's CARD OF 'laws.FnExactParseInstr'. -/
def fnExactParseInstrUptoCard : Claim7 := { stood := { row := fnExactParseInstrUptoRow, standIns := [], harness := (true, "a7b693c74817f2ce0561add2143673c76e966986bcca0c7db15f1d62bb8073d7"), looks := true }, kinds := [], alts := [], laidByText := true, laidKinds := [.data, .data, .data, .data, .sentinel, .sentinel, .widerDeep, .pinned], laidTests := true, laidLooks := .later }
def FnExactParseInstrUptoCardSaid : Prop := Claim7.holds Tryd.pinned (.plain (OpenSpec.upto fnExactParseInstrSpec)) fnExactParseInstrUptoCard
end Rows
end Go.Proofs.YtmipaoobkjppdaaDoor
