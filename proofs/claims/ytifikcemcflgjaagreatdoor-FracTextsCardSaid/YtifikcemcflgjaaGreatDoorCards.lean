/-
  DERIVED. GIVEN WITH THE SEED: THE CARDS: each row of YtifikcemcflgjaaGreatDoorRows.lean that lists a variable, with what it lists TIED to the program's text (the seventh form; the later family's looks); each row that meets fmt, with fmt's text TOLD by the authors' own Lean function (tested against real Go, not proved from fmt's source: count such statements apart). THE CARD IS WHAT COUNTS. Prove the row's statement (the work); the ties are given (YtifikcemcflgjaaGreatDoorTie.lean); close each card by the builder's one call (the guide's Derived/Test/ToyasCard.lean, 'card_holds'). Laid BY PROGRAM, IN A SANDBOX (cutbox-door.mjs). By AI agents, Wed Nov 11 2026. No macro, syntax, notation, axiom, sorry.
-/
import Derived.Test.YtifikcemcflgjaaGreatDoorRows
import GoSem.ClaimSeven
namespace Go.Proofs.YtifikcemcflgjaaGreatDoor
namespace Rows

/-- THE TIED CARD OF 'annuitantlaw02.FracWrong'. -/
def fracWrongCard : Claim7 := { stood := { row := fracWrongRow, standIns := [], harness := (true, "e07eeb2fc26999dd3cddeffb5cf01020f6805a7918f6425508cce5d9fed3f643"), looks := false }, kinds := [], alts := [], laidByText := true, laidKinds := [.data, .data, .data], laidTests := true, laidLooks := .later }
def FracWrongCardSaid : Prop := Claim7.holds Tryz.pinned (.plain (OpenSpec.ofChange fracWrongSpec)) fracWrongCard

/-- THE TIED CARD OF 'annuitantlaw02.FracTells'. -/
def fracTellsCard : Claim7 := { stood := { row := fracTellsRow, standIns := [], harness := (true, "e07eeb2fc26999dd3cddeffb5cf01020f6805a7918f6425508cce5d9fed3f643"), looks := false }, kinds := [], alts := [], laidByText := true, laidKinds := [.data, .data, .data], laidTests := true, laidLooks := .later }
def FracTellsCardSaid : Prop := Claim7.holds Tryz.pinned (.plain (OpenSpec.ofChange fracTellsSpec)) fracTellsCard

/-- THE TIED CARD OF 'annuitantlaw02.FracTexts'. -/
def fracTextsCard : Claim7 := { stood := { row := fracTextsRow, standIns := [], harness := (true, "e07eeb2fc26999dd3cddeffb5cf01020f6805a7918f6425508cce5d9fed3f643"), looks := false }, kinds := [], alts := [], laidByText := true, laidKinds := [.data, .data, .data], laidTests := true, laidLooks := .later }
def FracTextsCardSaid : Prop := Claim7.holds Tryz.pinned (.plain (OpenSpec.ofChange fracTextsSpec)) fracTextsCard

/-- THE SECOND FORM's CARD OF 'annuitantlaw02.FracWrong'. -/
def fracWrongUptoCard : Claim7 := { stood := { row := fracWrongUptoRow, standIns := [], harness := (true, "e07eeb2fc26999dd3cddeffb5cf01020f6805a7918f6425508cce5d9fed3f643"), looks := false }, kinds := [], alts := [], laidByText := true, laidKinds := [.data, .data, .data], laidTests := true, laidLooks := .later }
def FracWrongUptoCardSaid : Prop := Claim7.holds Tryz.pinned (.plain (OpenSpec.upto fracWrongSpec)) fracWrongUptoCard

/-- THE SECOND FORM's CARD OF 'annuitantlaw02.FracTells'. -/
def fracTellsUptoCard : Claim7 := { stood := { row := fracTellsUptoRow, standIns := [], harness := (true, "e07eeb2fc26999dd3cddeffb5cf01020f6805a7918f6425508cce5d9fed3f643"), looks := false }, kinds := [], alts := [], laidByText := true, laidKinds := [.data, .data, .data], laidTests := true, laidLooks := .later }
def FracTellsUptoCardSaid : Prop := Claim7.holds Tryz.pinned (.plain (OpenSpec.upto fracTellsSpec)) fracTellsUptoCard

/-- THE SECOND FORM's CARD OF 'annuitantlaw02.FracTexts'. -/
def fracTextsUptoCard : Claim7 := { stood := { row := fracTextsUptoRow, standIns := [], harness := (true, "e07eeb2fc26999dd3cddeffb5cf01020f6805a7918f6425508cce5d9fed3f643"), looks := false }, kinds := [], alts := [], laidByText := true, laidKinds := [.data, .data, .data], laidTests := true, laidLooks := .later }
def FracTextsUptoCardSaid : Prop := Claim7.holds Tryz.pinned (.plain (OpenSpec.upto fracTextsSpec)) fracTextsUptoCard
end Rows
end Go.Proofs.YtifikcemcflgjaaGreatDoor
