/-
  DERIVED. GIVEN WITH THE SEED: THE CARDS: each row of YtafglggjncnkkaaDoorRows.lean that lists a variable, with what it lists TIED to the program's text (the seventh form; the later family's looks); each row that meets fmt, with fmt's text TOLD by the authors' own Lean function (tested against real Go, not proved from fmt's source: count such statements apart). THE CARD IS WHAT COUNTS. Prove the row's statement (the work); the ties are given (YtafglggjncnkkaaDoorTie.lean); close each card by the builder's one call (the guide's Derived/Test/ToyasCard.lean, 'card_holds'). Laid BY PROGRAM, IN A SANDBOX (cutbox-door.mjs). By AI agents, Wed Nov 11 2026. No macro, syntax, notation, axiom, sorry.
-/
import Derived.Test.YtafglggjncnkkaaDoorRows
import GoSem.ClaimSeven
namespace Go.Proofs.YtafglggjncnkkaaDoor
namespace Rows

/-- THE TIED CARD OF 'annuitantlaw01.WholeGcds'. -/
def wholeGcdsCard : Claim7 := { stood := { row := wholeGcdsRow, standIns := [], harness := (true, "48122c504f97de46efc0c04aa3677510e96cd5dd0a993d208ef14a51922688ef"), looks := false }, kinds := [], alts := [], laidByText := true, laidKinds := [.data, .data, .data], laidTests := true, laidLooks := .later }
def WholeGcdsCardSaid : Prop := Claim7.holds Tryd.pinned (.plain (OpenSpec.ofChange wholeGcdsSpec)) wholeGcdsCard

/-- THE TIED CARD OF 'annuitantlaw01.WholeTexts'. -/
def wholeTextsCard : Claim7 := { stood := { row := wholeTextsRow, standIns := [], harness := (true, "48122c504f97de46efc0c04aa3677510e96cd5dd0a993d208ef14a51922688ef"), looks := false }, kinds := [], alts := [], laidByText := true, laidKinds := [.data, .data, .data], laidTests := true, laidLooks := .later }
def WholeTextsCardSaid : Prop := Claim7.holds Tryd.pinned (.plain (OpenSpec.ofChange wholeTextsSpec)) wholeTextsCard

/-- THE TIED CARD OF 'annuitantlaw01.WholeLimits'. -/
def wholeLimitsCard : Claim7 := { stood := { row := wholeLimitsRow, standIns := [], harness := (true, "48122c504f97de46efc0c04aa3677510e96cd5dd0a993d208ef14a51922688ef"), looks := false }, kinds := [], alts := [], laidByText := true, laidKinds := [.data, .data, .data], laidTests := true, laidLooks := .later }
def WholeLimitsCardSaid : Prop := Claim7.holds Tryd.pinned (.plain (OpenSpec.ofChange wholeLimitsSpec)) wholeLimitsCard

/-- THE TIED CARD OF 'annuitantlaw01.WholeRing'. -/
def wholeRingCard : Claim7 := { stood := { row := wholeRingRow, standIns := [], harness := (true, "48122c504f97de46efc0c04aa3677510e96cd5dd0a993d208ef14a51922688ef"), looks := false }, kinds := [], alts := [], laidByText := true, laidKinds := [.data, .data, .data], laidTests := true, laidLooks := .later }
def WholeRingCardSaid : Prop := Claim7.holds Tryd.pinned (.plain (OpenSpec.ofChange wholeRingSpec)) wholeRingCard

/-- THE TIED CARD OF 'annuitantlaw01.WholeDivides'. -/
def wholeDividesCard : Claim7 := { stood := { row := wholeDividesRow, standIns := [], harness := (true, "48122c504f97de46efc0c04aa3677510e96cd5dd0a993d208ef14a51922688ef"), looks := false }, kinds := [], alts := [], laidByText := true, laidKinds := [.data, .data, .data], laidTests := true, laidLooks := .later }
def WholeDividesCardSaid : Prop := Claim7.holds Tryd.pinned (.plain (OpenSpec.ofChange wholeDividesSpec)) wholeDividesCard

/-- THE TIED CARD OF 'annuitantlaw01.WholeEnds'. -/
def wholeEndsCard : Claim7 := { stood := { row := wholeEndsRow, standIns := [], harness := (true, "48122c504f97de46efc0c04aa3677510e96cd5dd0a993d208ef14a51922688ef"), looks := false }, kinds := [], alts := [], laidByText := true, laidKinds := [.data, .data, .data], laidTests := true, laidLooks := .later }
def WholeEndsCardSaid : Prop := Claim7.holds Tryd.pinned (.plain (OpenSpec.ofChange wholeEndsSpec)) wholeEndsCard

/-- THE TIED CARD OF 'annuitantlaw01.WholeOrder'. -/
def wholeOrderCard : Claim7 := { stood := { row := wholeOrderRow, standIns := [], harness := (true, "48122c504f97de46efc0c04aa3677510e96cd5dd0a993d208ef14a51922688ef"), looks := false }, kinds := [], alts := [], laidByText := true, laidKinds := [.data, .data, .data], laidTests := true, laidLooks := .later }
def WholeOrderCardSaid : Prop := Claim7.holds Tryd.pinned (.plain (OpenSpec.ofChange wholeOrderSpec)) wholeOrderCard

/-- THE TIED CARD OF 'annuitantlaw01.WholeInts'. -/
def wholeIntsCard : Claim7 := { stood := { row := wholeIntsRow, standIns := [], harness := (true, "48122c504f97de46efc0c04aa3677510e96cd5dd0a993d208ef14a51922688ef"), looks := false }, kinds := [], alts := [], laidByText := true, laidKinds := [.data, .data, .data], laidTests := true, laidLooks := .later }
def WholeIntsCardSaid : Prop := Claim7.holds Tryd.pinned (.plain (OpenSpec.ofChange wholeIntsSpec)) wholeIntsCard

/-- THE TIED CARD OF 'annuitantlaw01.WholeWrong'. -/
def wholeWrongCard : Claim7 := { stood := { row := wholeWrongRow, standIns := [], harness := (true, "48122c504f97de46efc0c04aa3677510e96cd5dd0a993d208ef14a51922688ef"), looks := false }, kinds := [], alts := [], laidByText := true, laidKinds := [.data, .data, .data], laidTests := true, laidLooks := .later }
def WholeWrongCardSaid : Prop := Claim7.holds Tryd.pinned (.plain (OpenSpec.ofChange wholeWrongSpec)) wholeWrongCard

/-- THE SECOND FORM's CARD OF 'annuitantlaw01.WholeGcds'. -/
def wholeGcdsUptoCard : Claim7 := { stood := { row := wholeGcdsUptoRow, standIns := [], harness := (true, "48122c504f97de46efc0c04aa3677510e96cd5dd0a993d208ef14a51922688ef"), looks := false }, kinds := [], alts := [], laidByText := true, laidKinds := [.data, .data, .data], laidTests := true, laidLooks := .later }
def WholeGcdsUptoCardSaid : Prop := Claim7.holds Tryd.pinned (.plain (OpenSpec.upto wholeGcdsSpec)) wholeGcdsUptoCard

/-- THE SECOND FORM's CARD OF 'annuitantlaw01.WholeTexts'. -/
def wholeTextsUptoCard : Claim7 := { stood := { row := wholeTextsUptoRow, standIns := [], harness := (true, "48122c504f97de46efc0c04aa3677510e96cd5dd0a993d208ef14a51922688ef"), looks := false }, kinds := [], alts := [], laidByText := true, laidKinds := [.data, .data, .data], laidTests := true, laidLooks := .later }
def WholeTextsUptoCardSaid : Prop := Claim7.holds Tryd.pinned (.plain (OpenSpec.upto wholeTextsSpec)) wholeTextsUptoCard

/-- THE SECOND FORM's CARD OF 'annuitantlaw01.WholeLimits'. -/
def wholeLimitsUptoCard : Claim7 := { stood := { row := wholeLimitsUptoRow, standIns := [], harness := (true, "48122c504f97de46efc0c04aa3677510e96cd5dd0a993d208ef14a51922688ef"), looks := false }, kinds := [], alts := [], laidByText := true, laidKinds := [.data, .data, .data], laidTests := true, laidLooks := .later }
def WholeLimitsUptoCardSaid : Prop := Claim7.holds Tryd.pinned (.plain (OpenSpec.upto wholeLimitsSpec)) wholeLimitsUptoCard

/-- THE SECOND FORM's CARD OF 'annuitantlaw01.WholeRing'. -/
def wholeRingUptoCard : Claim7 := { stood := { row := wholeRingUptoRow, standIns := [], harness := (true, "48122c504f97de46efc0c04aa3677510e96cd5dd0a993d208ef14a51922688ef"), looks := false }, kinds := [], alts := [], laidByText := true, laidKinds := [.data, .data, .data], laidTests := true, laidLooks := .later }
def WholeRingUptoCardSaid : Prop := Claim7.holds Tryd.pinned (.plain (OpenSpec.upto wholeRingSpec)) wholeRingUptoCard

/-- THE SECOND FORM's CARD OF 'annuitantlaw01.WholeDivides'. -/
def wholeDividesUptoCard : Claim7 := { stood := { row := wholeDividesUptoRow, standIns := [], harness := (true, "48122c504f97de46efc0c04aa3677510e96cd5dd0a993d208ef14a51922688ef"), looks := false }, kinds := [], alts := [], laidByText := true, laidKinds := [.data, .data, .data], laidTests := true, laidLooks := .later }
def WholeDividesUptoCardSaid : Prop := Claim7.holds Tryd.pinned (.plain (OpenSpec.upto wholeDividesSpec)) wholeDividesUptoCard

/-- THE SECOND FORM's CARD OF 'annuitantlaw01.WholeEnds'. -/
def wholeEndsUptoCard : Claim7 := { stood := { row := wholeEndsUptoRow, standIns := [], harness := (true, "48122c504f97de46efc0c04aa3677510e96cd5dd0a993d208ef14a51922688ef"), looks := false }, kinds := [], alts := [], laidByText := true, laidKinds := [.data, .data, .data], laidTests := true, laidLooks := .later }
def WholeEndsUptoCardSaid : Prop := Claim7.holds Tryd.pinned (.plain (OpenSpec.upto wholeEndsSpec)) wholeEndsUptoCard

/-- THE SECOND FORM's CARD OF 'annuitantlaw01.WholeOrder'. -/
def wholeOrderUptoCard : Claim7 := { stood := { row := wholeOrderUptoRow, standIns := [], harness := (true, "48122c504f97de46efc0c04aa3677510e96cd5dd0a993d208ef14a51922688ef"), looks := false }, kinds := [], alts := [], laidByText := true, laidKinds := [.data, .data, .data], laidTests := true, laidLooks := .later }
def WholeOrderUptoCardSaid : Prop := Claim7.holds Tryd.pinned (.plain (OpenSpec.upto wholeOrderSpec)) wholeOrderUptoCard

/-- THE SECOND FORM's CARD OF 'annuitantlaw01.WholeInts'. -/
def wholeIntsUptoCard : Claim7 := { stood := { row := wholeIntsUptoRow, standIns := [], harness := (true, "48122c504f97de46efc0c04aa3677510e96cd5dd0a993d208ef14a51922688ef"), looks := false }, kinds := [], alts := [], laidByText := true, laidKinds := [.data, .data, .data], laidTests := true, laidLooks := .later }
def WholeIntsUptoCardSaid : Prop := Claim7.holds Tryd.pinned (.plain (OpenSpec.upto wholeIntsSpec)) wholeIntsUptoCard

/-- THE SECOND FORM's CARD OF 'annuitantlaw01.WholeWrong'. -/
def wholeWrongUptoCard : Claim7 := { stood := { row := wholeWrongUptoRow, standIns := [], harness := (true, "48122c504f97de46efc0c04aa3677510e96cd5dd0a993d208ef14a51922688ef"), looks := false }, kinds := [], alts := [], laidByText := true, laidKinds := [.data, .data, .data], laidTests := true, laidLooks := .later }
def WholeWrongUptoCardSaid : Prop := Claim7.holds Tryd.pinned (.plain (OpenSpec.upto wholeWrongSpec)) wholeWrongUptoCard
end Rows
end Go.Proofs.YtafglggjncnkkaaDoor
