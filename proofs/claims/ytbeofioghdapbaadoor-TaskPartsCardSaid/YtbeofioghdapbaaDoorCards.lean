/-
  DERIVED. GIVEN WITH THE SEED: THE CARDS: each row of YtbeofioghdapbaaDoorRows.lean that lists a variable, with what it lists TIED to the program's text (the seventh form; the later family's looks); each row that meets fmt, with fmt's text TOLD by the authors' own Lean function (tested against real Go, not proved from fmt's source: count such statements apart). THE CARD IS WHAT COUNTS. Prove the row's statement (the work); the ties are given (YtbeofioghdapbaaDoorTie.lean); close each card by the builder's one call (the guide's Derived/Test/ToyasCard.lean, 'card_holds'). Laid BY PROGRAM, IN A SANDBOX (cutbox-door.mjs). By AI agents, Wed Nov 11 2026. No macro, syntax, notation, axiom, sorry.
-/
import Derived.Test.YtbeofioghdapbaaDoorRows
import GoSem.ClaimSeven
namespace Go.Proofs.YtbeofioghdapbaaDoor
namespace Rows

/-- THE TIED CARD OF 'pendulumlaw06.ParseRight'. -/
def parseRightCard : Claim7 := { stood := { row := parseRightRow, standIns := [], harness := (true, "be45af493a4c64faefc0e9488c7f9e62a03291a4f335918d0d10524d70022efc"), looks := false }, kinds := [], alts := [], laidByText := true, laidKinds := [.data, .pinned], laidTests := true, laidLooks := .later }
def ParseRightCardSaid : Prop := Claim7.holds Tryd.pinned (.plain (OpenSpec.ofChange parseRightSpec)) parseRightCard

/-- THE TIED CARD OF 'pendulumlaw06.ParseKeeps'. -/
def parseKeepsCard : Claim7 := { stood := { row := parseKeepsRow, standIns := [], harness := (true, "be45af493a4c64faefc0e9488c7f9e62a03291a4f335918d0d10524d70022efc"), looks := false }, kinds := [], alts := [], laidByText := true, laidKinds := [.data, .pinned], laidTests := true, laidLooks := .later }
def ParseKeepsCardSaid : Prop := Claim7.holds Tryd.pinned (.plain (OpenSpec.ofChange parseKeepsSpec)) parseKeepsCard

/-- THE TIED CARD OF 'pendulumlaw07.PrintSets'. -/
def printSetsCard : Claim7 := { stood := { row := printSetsRow, standIns := [], harness := (true, "be45af493a4c64faefc0e9488c7f9e62a03291a4f335918d0d10524d70022efc"), looks := false }, kinds := [], alts := [], laidByText := true, laidKinds := [.data, .data, .data, .data, .pinned], laidTests := true, laidLooks := .later }
def PrintSetsCardSaid : Prop := Claim7.holds Tryd.pinned (.plain (OpenSpec.ofChange printSetsSpec)) printSetsCard

/-- THE TIED CARD OF 'pendulumlaw07.PrintLines'. -/
def printLinesCard : Claim7 := { stood := { row := printLinesRow, standIns := [], harness := (true, "be45af493a4c64faefc0e9488c7f9e62a03291a4f335918d0d10524d70022efc"), looks := false }, kinds := [], alts := [], laidByText := true, laidKinds := [.data, .data, .data, .data, .pinned], laidTests := true, laidLooks := .later }
def PrintLinesCardSaid : Prop := Claim7.holds Tryd.pinned (.plain (OpenSpec.ofChange printLinesSpec)) printLinesCard

/-- THE TIED CARD OF 'pendulumlaw05.TaskParts'. -/
def taskPartsCard : Claim7 := { stood := { row := taskPartsRow, standIns := [], harness := (true, "be45af493a4c64faefc0e9488c7f9e62a03291a4f335918d0d10524d70022efc"), looks := false }, kinds := [], alts := [], laidByText := true, laidKinds := [.data, .pinned], laidTests := true, laidLooks := .later }
def TaskPartsCardSaid : Prop := Claim7.holds Tryd.pinned (.plain (OpenSpec.ofChange taskPartsSpec)) taskPartsCard

/-- THE TIED CARD OF 'pendulumlaw07.PrintBack'. -/
def printBackCard : Claim7 := { stood := { row := printBackRow, standIns := [], harness := (true, "be45af493a4c64faefc0e9488c7f9e62a03291a4f335918d0d10524d70022efc"), looks := false }, kinds := [], alts := [], laidByText := true, laidKinds := [.data, .data, .data, .data, .pinned], laidTests := true, laidLooks := .later }
def PrintBackCardSaid : Prop := Claim7.holds Tryd.pinned (.plain (OpenSpec.ofChange printBackSpec)) printBackCard

/-- THE TIED CARD OF 'pendulumlaw07.PrintRead'. -/
def printReadCard : Claim7 := { stood := { row := printReadRow, standIns := [], harness := (true, "be45af493a4c64faefc0e9488c7f9e62a03291a4f335918d0d10524d70022efc"), looks := false }, kinds := [], alts := [], laidByText := true, laidKinds := [.data, .data, .data, .data, .pinned], laidTests := true, laidLooks := .later }
def PrintReadCardSaid : Prop := Claim7.holds Tryd.pinned (.plain (OpenSpec.ofChange printReadSpec)) printReadCard

/-- THE TIED CARD OF 'pendulumlaw20.VerdictJudges'. -/
def verdictJudgesCard : Claim7 := { stood := { row := verdictJudgesRow, standIns := [], harness := (true, "be45af493a4c64faefc0e9488c7f9e62a03291a4f335918d0d10524d70022efc"), looks := false }, kinds := [], alts := [], laidByText := true, laidKinds := [.data, .pinned], laidTests := true, laidLooks := .later }
def VerdictJudgesCardSaid : Prop := Claim7.holds Tryd.pinned (.plain (OpenSpec.ofChange verdictJudgesSpec)) verdictJudgesCard

/-- THE TIED CARD OF 'pendulumlaw20.VerdictAlike'. -/
def verdictAlikeCard : Claim7 := { stood := { row := verdictAlikeRow, standIns := [], harness := (true, "be45af493a4c64faefc0e9488c7f9e62a03291a4f335918d0d10524d70022efc"), looks := false }, kinds := [], alts := [], laidByText := true, laidKinds := [.data, .pinned], laidTests := true, laidLooks := .later }
def VerdictAlikeCardSaid : Prop := Claim7.holds Tryd.pinned (.plain (OpenSpec.ofChange verdictAlikeSpec)) verdictAlikeCard

/-- THE TIED CARD OF 'pendulumlaw20.VerdictKeeps'. -/
def verdictKeepsCard : Claim7 := { stood := { row := verdictKeepsRow, standIns := [], harness := (true, "be45af493a4c64faefc0e9488c7f9e62a03291a4f335918d0d10524d70022efc"), looks := false }, kinds := [], alts := [], laidByText := true, laidKinds := [.data, .pinned], laidTests := true, laidLooks := .later }
def VerdictKeepsCardSaid : Prop := Claim7.holds Tryd.pinned (.plain (OpenSpec.ofChange verdictKeepsSpec)) verdictKeepsCard

/-- THE TIED CARD OF 'pendulumlaw20.VerdictOrder'. -/
def verdictOrderCard : Claim7 := { stood := { row := verdictOrderRow, standIns := [], harness := (true, "be45af493a4c64faefc0e9488c7f9e62a03291a4f335918d0d10524d70022efc"), looks := false }, kinds := [], alts := [], laidByText := true, laidKinds := [.data, .pinned], laidTests := true, laidLooks := .later }
def VerdictOrderCardSaid : Prop := Claim7.holds Tryd.pinned (.plain (OpenSpec.ofChange verdictOrderSpec)) verdictOrderCard

/-- THE TIED CARD OF 'pendulumlaw20.VerdictFirm'. -/
def verdictFirmCard : Claim7 := { stood := { row := verdictFirmRow, standIns := [], harness := (true, "be45af493a4c64faefc0e9488c7f9e62a03291a4f335918d0d10524d70022efc"), looks := false }, kinds := [], alts := [], laidByText := true, laidKinds := [.data, .pinned], laidTests := true, laidLooks := .later }
def VerdictFirmCardSaid : Prop := Claim7.holds Tryd.pinned (.plain (OpenSpec.ofChange verdictFirmSpec)) verdictFirmCard

/-- THE TIED CARD OF 'pendulumlaw21.GapLeast'. -/
def gapLeastCard : Claim7 := { stood := { row := gapLeastRow, standIns := [], harness := (true, "be45af493a4c64faefc0e9488c7f9e62a03291a4f335918d0d10524d70022efc"), looks := false }, kinds := [], alts := [], laidByText := true, laidKinds := [.data, .pinned], laidTests := true, laidLooks := .later }
def GapLeastCardSaid : Prop := Claim7.holds Tryd.pinned (.plain (OpenSpec.ofChange gapLeastSpec)) gapLeastCard

/-- THE SECOND FORM's CARD OF 'pendulumlaw06.ParseRight'. -/
def parseRightUptoCard : Claim7 := { stood := { row := parseRightUptoRow, standIns := [], harness := (true, "be45af493a4c64faefc0e9488c7f9e62a03291a4f335918d0d10524d70022efc"), looks := false }, kinds := [], alts := [], laidByText := true, laidKinds := [.data, .pinned], laidTests := true, laidLooks := .later }
def ParseRightUptoCardSaid : Prop := Claim7.holds Tryd.pinned (.plain (OpenSpec.upto parseRightSpec)) parseRightUptoCard

/-- THE SECOND FORM's CARD OF 'pendulumlaw06.ParseKeeps'. -/
def parseKeepsUptoCard : Claim7 := { stood := { row := parseKeepsUptoRow, standIns := [], harness := (true, "be45af493a4c64faefc0e9488c7f9e62a03291a4f335918d0d10524d70022efc"), looks := false }, kinds := [], alts := [], laidByText := true, laidKinds := [.data, .pinned], laidTests := true, laidLooks := .later }
def ParseKeepsUptoCardSaid : Prop := Claim7.holds Tryd.pinned (.plain (OpenSpec.upto parseKeepsSpec)) parseKeepsUptoCard

/-- THE SECOND FORM's CARD OF 'pendulumlaw07.PrintSets'. -/
def printSetsUptoCard : Claim7 := { stood := { row := printSetsUptoRow, standIns := [], harness := (true, "be45af493a4c64faefc0e9488c7f9e62a03291a4f335918d0d10524d70022efc"), looks := false }, kinds := [], alts := [], laidByText := true, laidKinds := [.data, .data, .data, .data, .pinned], laidTests := true, laidLooks := .later }
def PrintSetsUptoCardSaid : Prop := Claim7.holds Tryd.pinned (.plain (OpenSpec.upto printSetsSpec)) printSetsUptoCard

/-- THE SECOND FORM's CARD OF 'pendulumlaw07.PrintLines'. -/
def printLinesUptoCard : Claim7 := { stood := { row := printLinesUptoRow, standIns := [], harness := (true, "be45af493a4c64faefc0e9488c7f9e62a03291a4f335918d0d10524d70022efc"), looks := false }, kinds := [], alts := [], laidByText := true, laidKinds := [.data, .data, .data, .data, .pinned], laidTests := true, laidLooks := .later }
def PrintLinesUptoCardSaid : Prop := Claim7.holds Tryd.pinned (.plain (OpenSpec.upto printLinesSpec)) printLinesUptoCard

/-- THE SECOND FORM's CARD OF 'pendulumlaw05.TaskParts'. -/
def taskPartsUptoCard : Claim7 := { stood := { row := taskPartsUptoRow, standIns := [], harness := (true, "be45af493a4c64faefc0e9488c7f9e62a03291a4f335918d0d10524d70022efc"), looks := false }, kinds := [], alts := [], laidByText := true, laidKinds := [.data, .pinned], laidTests := true, laidLooks := .later }
def TaskPartsUptoCardSaid : Prop := Claim7.holds Tryd.pinned (.plain (OpenSpec.upto taskPartsSpec)) taskPartsUptoCard

/-- THE SECOND FORM's CARD OF 'pendulumlaw07.PrintBack'. -/
def printBackUptoCard : Claim7 := { stood := { row := printBackUptoRow, standIns := [], harness := (true, "be45af493a4c64faefc0e9488c7f9e62a03291a4f335918d0d10524d70022efc"), looks := false }, kinds := [], alts := [], laidByText := true, laidKinds := [.data, .data, .data, .data, .pinned], laidTests := true, laidLooks := .later }
def PrintBackUptoCardSaid : Prop := Claim7.holds Tryd.pinned (.plain (OpenSpec.upto printBackSpec)) printBackUptoCard

/-- THE SECOND FORM's CARD OF 'pendulumlaw07.PrintRead'. -/
def printReadUptoCard : Claim7 := { stood := { row := printReadUptoRow, standIns := [], harness := (true, "be45af493a4c64faefc0e9488c7f9e62a03291a4f335918d0d10524d70022efc"), looks := false }, kinds := [], alts := [], laidByText := true, laidKinds := [.data, .data, .data, .data, .pinned], laidTests := true, laidLooks := .later }
def PrintReadUptoCardSaid : Prop := Claim7.holds Tryd.pinned (.plain (OpenSpec.upto printReadSpec)) printReadUptoCard

/-- THE SECOND FORM's CARD OF 'pendulumlaw20.VerdictJudges'. -/
def verdictJudgesUptoCard : Claim7 := { stood := { row := verdictJudgesUptoRow, standIns := [], harness := (true, "be45af493a4c64faefc0e9488c7f9e62a03291a4f335918d0d10524d70022efc"), looks := false }, kinds := [], alts := [], laidByText := true, laidKinds := [.data, .pinned], laidTests := true, laidLooks := .later }
def VerdictJudgesUptoCardSaid : Prop := Claim7.holds Tryd.pinned (.plain (OpenSpec.upto verdictJudgesSpec)) verdictJudgesUptoCard

/-- THE SECOND FORM's CARD OF 'pendulumlaw20.VerdictAlike'. -/
def verdictAlikeUptoCard : Claim7 := { stood := { row := verdictAlikeUptoRow, standIns := [], harness := (true, "be45af493a4c64faefc0e9488c7f9e62a03291a4f335918d0d10524d70022efc"), looks := false }, kinds := [], alts := [], laidByText := true, laidKinds := [.data, .pinned], laidTests := true, laidLooks := .later }
def VerdictAlikeUptoCardSaid : Prop := Claim7.holds Tryd.pinned (.plain (OpenSpec.upto verdictAlikeSpec)) verdictAlikeUptoCard

/-- THE SECOND FORM's CARD OF 'pendulumlaw20.VerdictKeeps'. -/
def verdictKeepsUptoCard : Claim7 := { stood := { row := verdictKeepsUptoRow, standIns := [], harness := (true, "be45af493a4c64faefc0e9488c7f9e62a03291a4f335918d0d10524d70022efc"), looks := false }, kinds := [], alts := [], laidByText := true, laidKinds := [.data, .pinned], laidTests := true, laidLooks := .later }
def VerdictKeepsUptoCardSaid : Prop := Claim7.holds Tryd.pinned (.plain (OpenSpec.upto verdictKeepsSpec)) verdictKeepsUptoCard

/-- THE SECOND FORM's CARD OF 'pendulumlaw20.VerdictOrder'. -/
def verdictOrderUptoCard : Claim7 := { stood := { row := verdictOrderUptoRow, standIns := [], harness := (true, "be45af493a4c64faefc0e9488c7f9e62a03291a4f335918d0d10524d70022efc"), looks := false }, kinds := [], alts := [], laidByText := true, laidKinds := [.data, .pinned], laidTests := true, laidLooks := .later }
def VerdictOrderUptoCardSaid : Prop := Claim7.holds Tryd.pinned (.plain (OpenSpec.upto verdictOrderSpec)) verdictOrderUptoCard

/-- THE SECOND FORM's CARD OF 'pendulumlaw20.VerdictFirm'. -/
def verdictFirmUptoCard : Claim7 := { stood := { row := verdictFirmUptoRow, standIns := [], harness := (true, "be45af493a4c64faefc0e9488c7f9e62a03291a4f335918d0d10524d70022efc"), looks := false }, kinds := [], alts := [], laidByText := true, laidKinds := [.data, .pinned], laidTests := true, laidLooks := .later }
def VerdictFirmUptoCardSaid : Prop := Claim7.holds Tryd.pinned (.plain (OpenSpec.upto verdictFirmSpec)) verdictFirmUptoCard

/-- THE SECOND FORM's CARD OF 'pendulumlaw21.GapLeast'. -/
def gapLeastUptoCard : Claim7 := { stood := { row := gapLeastUptoRow, standIns := [], harness := (true, "be45af493a4c64faefc0e9488c7f9e62a03291a4f335918d0d10524d70022efc"), looks := false }, kinds := [], alts := [], laidByText := true, laidKinds := [.data, .pinned], laidTests := true, laidLooks := .later }
def GapLeastUptoCardSaid : Prop := Claim7.holds Tryd.pinned (.plain (OpenSpec.upto gapLeastSpec)) gapLeastUptoCard
end Rows
end Go.Proofs.YtbeofioghdapbaaDoor
