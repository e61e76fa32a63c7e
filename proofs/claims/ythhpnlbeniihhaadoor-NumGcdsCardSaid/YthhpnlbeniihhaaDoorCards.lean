/-
  DERIVED. GIVEN WITH THE SEED: THE CARDS: each row of YthhpnlbeniihhaaDoorRows.lean that lists a variable, with what it lists TIED to the program's text (the seventh form; the later family's looks); each row that meets fmt, with fmt's text TOLD by the authors' own Lean function (tested against real Go, not proved from fmt's source: count such statements apart). THE CARD IS WHAT COUNTS. Prove the row's statement (the work); the ties are given (YthhpnlbeniihhaaDoorTie.lean); close each card by the builder's one call (the guide's Derived/Test/ToyasCard.lean, 'card_holds'). Laid BY PROGRAM, IN A SANDBOX (cutbox-door.mjs). By AI agents, Wed Nov 11 2026. No macro, syntax, notation, axiom, sorry.
-/
import Derived.Test.YthhpnlbeniihhaaDoorRows
import GoSem.ClaimSeven
namespace Go.Proofs.YthhpnlbeniihhaaDoor
namespace Rows

/-- THE TIED CARD OF 'morainelaw02.NumOf'. -/
def numOfCard : Claim7 := { stood := { row := numOfRow, standIns := [], harness := (true, "9be1bfdb47bc78ef9f41b63b54e138b91fd84edee5f84e75b134554a688a9ece"), looks := false }, kinds := [], alts := [], laidByText := true, laidKinds := [.data, .data, .data, .data, .pinned], laidTests := true, laidLooks := .later }
def NumOfCardSaid : Prop := Claim7.holds Tryd.pinned (.plain (OpenSpec.ofChange numOfSpec)) numOfCard

/-- THE TIED CARD OF 'morainelaw02.NumTexts'. -/
def numTextsCard : Claim7 := { stood := { row := numTextsRow, standIns := [], harness := (true, "9be1bfdb47bc78ef9f41b63b54e138b91fd84edee5f84e75b134554a688a9ece"), looks := false }, kinds := [], alts := [], laidByText := true, laidKinds := [.data, .data, .data, .data, .pinned], laidTests := true, laidLooks := .later }
def NumTextsCardSaid : Prop := Claim7.holds Tryd.pinned (.plain (OpenSpec.ofChange numTextsSpec)) numTextsCard

/-- THE TIED CARD OF 'morainelaw02.NumParses'. -/
def numParsesCard : Claim7 := { stood := { row := numParsesRow, standIns := [], harness := (true, "9be1bfdb47bc78ef9f41b63b54e138b91fd84edee5f84e75b134554a688a9ece"), looks := false }, kinds := [], alts := [], laidByText := true, laidKinds := [.data, .data, .data, .data, .pinned], laidTests := true, laidLooks := .later }
def NumParsesCardSaid : Prop := Claim7.holds Tryd.pinned (.plain (OpenSpec.ofChange numParsesSpec)) numParsesCard

/-- THE TIED CARD OF 'morainelaw02.NumDivides'. -/
def numDividesCard : Claim7 := { stood := { row := numDividesRow, standIns := [], harness := (true, "9be1bfdb47bc78ef9f41b63b54e138b91fd84edee5f84e75b134554a688a9ece"), looks := false }, kinds := [], alts := [], laidByText := true, laidKinds := [.data, .data, .data, .data, .pinned], laidTests := true, laidLooks := .later }
def NumDividesCardSaid : Prop := Claim7.holds Tryd.pinned (.plain (OpenSpec.ofChange numDividesSpec)) numDividesCard

/-- THE TIED CARD OF 'morainelaw02.NumGcds'. -/
def numGcdsCard : Claim7 := { stood := { row := numGcdsRow, standIns := [], harness := (true, "9be1bfdb47bc78ef9f41b63b54e138b91fd84edee5f84e75b134554a688a9ece"), looks := false }, kinds := [], alts := [], laidByText := true, laidKinds := [.data, .data, .data, .data, .pinned], laidTests := true, laidLooks := .later }
def NumGcdsCardSaid : Prop := Claim7.holds Tryd.pinned (.plain (OpenSpec.ofChange numGcdsSpec)) numGcdsCard

/-- THE TIED CARD OF 'morainelaw02.NumMuls'. -/
def numMulsCard : Claim7 := { stood := { row := numMulsRow, standIns := [], harness := (true, "9be1bfdb47bc78ef9f41b63b54e138b91fd84edee5f84e75b134554a688a9ece"), looks := false }, kinds := [], alts := [], laidByText := true, laidKinds := [.data, .data, .data, .data, .pinned], laidTests := true, laidLooks := .later }
def NumMulsCardSaid : Prop := Claim7.holds Tryd.pinned (.plain (OpenSpec.ofChange numMulsSpec)) numMulsCard

/-- THE TIED CARD OF 'morainelaw02.NumBack'. -/
def numBackCard : Claim7 := { stood := { row := numBackRow, standIns := [], harness := (true, "9be1bfdb47bc78ef9f41b63b54e138b91fd84edee5f84e75b134554a688a9ece"), looks := false }, kinds := [], alts := [], laidByText := true, laidKinds := [.data, .data, .data, .data, .pinned], laidTests := true, laidLooks := .later }
def NumBackCardSaid : Prop := Claim7.holds Tryd.pinned (.plain (OpenSpec.ofChange numBackSpec)) numBackCard

/-- THE TIED CARD OF 'morainelaw02.NumAdds'. -/
def numAddsCard : Claim7 := { stood := { row := numAddsRow, standIns := [], harness := (true, "9be1bfdb47bc78ef9f41b63b54e138b91fd84edee5f84e75b134554a688a9ece"), looks := false }, kinds := [], alts := [], laidByText := true, laidKinds := [.data, .data, .data, .data, .pinned], laidTests := true, laidLooks := .later }
def NumAddsCardSaid : Prop := Claim7.holds Tryd.pinned (.plain (OpenSpec.ofChange numAddsSpec)) numAddsCard

/-- THE TIED CARD OF 'morainelaw02.NumOrder'. -/
def numOrderCard : Claim7 := { stood := { row := numOrderRow, standIns := [], harness := (true, "9be1bfdb47bc78ef9f41b63b54e138b91fd84edee5f84e75b134554a688a9ece"), looks := false }, kinds := [], alts := [], laidByText := true, laidKinds := [.data, .data, .data, .data, .pinned], laidTests := true, laidLooks := .later }
def NumOrderCardSaid : Prop := Claim7.holds Tryd.pinned (.plain (OpenSpec.ofChange numOrderSpec)) numOrderCard

/-- THE TIED CARD OF 'morainelaw02.NumParts'. -/
def numPartsCard : Claim7 := { stood := { row := numPartsRow, standIns := [], harness := (true, "9be1bfdb47bc78ef9f41b63b54e138b91fd84edee5f84e75b134554a688a9ece"), looks := false }, kinds := [], alts := [], laidByText := true, laidKinds := [.data, .data, .data, .data, .pinned], laidTests := true, laidLooks := .later }
def NumPartsCardSaid : Prop := Claim7.holds Tryd.pinned (.plain (OpenSpec.ofChange numPartsSpec)) numPartsCard

/-- THE TIED CARD OF 'morainelaw02.NumMay'. -/
def numMayCard : Claim7 := { stood := { row := numMayRow, standIns := [], harness := (true, "9be1bfdb47bc78ef9f41b63b54e138b91fd84edee5f84e75b134554a688a9ece"), looks := false }, kinds := [], alts := [], laidByText := true, laidKinds := [.data, .data, .data, .data, .pinned], laidTests := true, laidLooks := .later }
def NumMayCardSaid : Prop := Claim7.holds Tryd.pinned (.plain (OpenSpec.ofChange numMaySpec)) numMayCard

/-- THE TIED CARD OF 'morainelaw02.NumRing'. -/
def numRingCard : Claim7 := { stood := { row := numRingRow, standIns := [], harness := (true, "9be1bfdb47bc78ef9f41b63b54e138b91fd84edee5f84e75b134554a688a9ece"), looks := false }, kinds := [], alts := [], laidByText := true, laidKinds := [.data, .data, .data, .data, .pinned], laidTests := true, laidLooks := .later }
def NumRingCardSaid : Prop := Claim7.holds Tryd.pinned (.plain (OpenSpec.ofChange numRingSpec)) numRingCard

/-- THE TIED CARD OF 'morainelaw02.NumCancel'. -/
def numCancelCard : Claim7 := { stood := { row := numCancelRow, standIns := [], harness := (true, "9be1bfdb47bc78ef9f41b63b54e138b91fd84edee5f84e75b134554a688a9ece"), looks := false }, kinds := [], alts := [], laidByText := true, laidKinds := [.data, .data, .data, .data, .pinned], laidTests := true, laidLooks := .later }
def NumCancelCardSaid : Prop := Claim7.holds Tryd.pinned (.plain (OpenSpec.ofChange numCancelSpec)) numCancelCard

/-- THE TIED CARD OF 'morainelaw02.NumDivision'. -/
def numDivisionCard : Claim7 := { stood := { row := numDivisionRow, standIns := [], harness := (true, "9be1bfdb47bc78ef9f41b63b54e138b91fd84edee5f84e75b134554a688a9ece"), looks := false }, kinds := [], alts := [], laidByText := true, laidKinds := [.data, .data, .data, .data, .pinned], laidTests := true, laidLooks := .later }
def NumDivisionCardSaid : Prop := Claim7.holds Tryd.pinned (.plain (OpenSpec.ofChange numDivisionSpec)) numDivisionCard

/-- THE SECOND FORM's CARD OF 'morainelaw02.NumOf'. -/
def numOfUptoCard : Claim7 := { stood := { row := numOfUptoRow, standIns := [], harness := (true, "9be1bfdb47bc78ef9f41b63b54e138b91fd84edee5f84e75b134554a688a9ece"), looks := false }, kinds := [], alts := [], laidByText := true, laidKinds := [.data, .data, .data, .data, .pinned], laidTests := true, laidLooks := .later }
def NumOfUptoCardSaid : Prop := Claim7.holds Tryd.pinned (.plain (OpenSpec.upto numOfSpec)) numOfUptoCard

/-- THE SECOND FORM's CARD OF 'morainelaw02.NumTexts'. -/
def numTextsUptoCard : Claim7 := { stood := { row := numTextsUptoRow, standIns := [], harness := (true, "9be1bfdb47bc78ef9f41b63b54e138b91fd84edee5f84e75b134554a688a9ece"), looks := false }, kinds := [], alts := [], laidByText := true, laidKinds := [.data, .data, .data, .data, .pinned], laidTests := true, laidLooks := .later }
def NumTextsUptoCardSaid : Prop := Claim7.holds Tryd.pinned (.plain (OpenSpec.upto numTextsSpec)) numTextsUptoCard

/-- THE SECOND FORM's CARD OF 'morainelaw02.NumParses'. -/
def numParsesUptoCard : Claim7 := { stood := { row := numParsesUptoRow, standIns := [], harness := (true, "9be1bfdb47bc78ef9f41b63b54e138b91fd84edee5f84e75b134554a688a9ece"), looks := false }, kinds := [], alts := [], laidByText := true, laidKinds := [.data, .data, .data, .data, .pinned], laidTests := true, laidLooks := .later }
def NumParsesUptoCardSaid : Prop := Claim7.holds Tryd.pinned (.plain (OpenSpec.upto numParsesSpec)) numParsesUptoCard

/-- THE SECOND FORM's CARD OF 'morainelaw02.NumDivides'. -/
def numDividesUptoCard : Claim7 := { stood := { row := numDividesUptoRow, standIns := [], harness := (true, "9be1bfdb47bc78ef9f41b63b54e138b91fd84edee5f84e75b134554a688a9ece"), looks := false }, kinds := [], alts := [], laidByText := true, laidKinds := [.data, .data, .data, .data, .pinned], laidTests := true, laidLooks := .later }
def NumDividesUptoCardSaid : Prop := Claim7.holds Tryd.pinned (.plain (OpenSpec.upto numDividesSpec)) numDividesUptoCard

/-- THE SECOND FORM's CARD OF 'morainelaw02.NumGcds'. -/
def numGcdsUptoCard : Claim7 := { stood := { row := numGcdsUptoRow, standIns := [], harness := (true, "9be1bfdb47bc78ef9f41b63b54e138b91fd84edee5f84e75b134554a688a9ece"), looks := false }, kinds := [], alts := [], laidByText := true, laidKinds := [.data, .data, .data, .data, .pinned], laidTests := true, laidLooks := .later }
def NumGcdsUptoCardSaid : Prop := Claim7.holds Tryd.pinned (.plain (OpenSpec.upto numGcdsSpec)) numGcdsUptoCard

/-- THE SECOND FORM's CARD OF 'morainelaw02.NumMuls'. -/
def numMulsUptoCard : Claim7 := { stood := { row := numMulsUptoRow, standIns := [], harness := (true, "9be1bfdb47bc78ef9f41b63b54e138b91fd84edee5f84e75b134554a688a9ece"), looks := false }, kinds := [], alts := [], laidByText := true, laidKinds := [.data, .data, .data, .data, .pinned], laidTests := true, laidLooks := .later }
def NumMulsUptoCardSaid : Prop := Claim7.holds Tryd.pinned (.plain (OpenSpec.upto numMulsSpec)) numMulsUptoCard

/-- THE SECOND FORM's CARD OF 'morainelaw02.NumBack'. -/
def numBackUptoCard : Claim7 := { stood := { row := numBackUptoRow, standIns := [], harness := (true, "9be1bfdb47bc78ef9f41b63b54e138b91fd84edee5f84e75b134554a688a9ece"), looks := false }, kinds := [], alts := [], laidByText := true, laidKinds := [.data, .data, .data, .data, .pinned], laidTests := true, laidLooks := .later }
def NumBackUptoCardSaid : Prop := Claim7.holds Tryd.pinned (.plain (OpenSpec.upto numBackSpec)) numBackUptoCard

/-- THE SECOND FORM's CARD OF 'morainelaw02.NumAdds'. -/
def numAddsUptoCard : Claim7 := { stood := { row := numAddsUptoRow, standIns := [], harness := (true, "9be1bfdb47bc78ef9f41b63b54e138b91fd84edee5f84e75b134554a688a9ece"), looks := false }, kinds := [], alts := [], laidByText := true, laidKinds := [.data, .data, .data, .data, .pinned], laidTests := true, laidLooks := .later }
def NumAddsUptoCardSaid : Prop := Claim7.holds Tryd.pinned (.plain (OpenSpec.upto numAddsSpec)) numAddsUptoCard

/-- THE SECOND FORM's CARD OF 'morainelaw02.NumOrder'. -/
def numOrderUptoCard : Claim7 := { stood := { row := numOrderUptoRow, standIns := [], harness := (true, "9be1bfdb47bc78ef9f41b63b54e138b91fd84edee5f84e75b134554a688a9ece"), looks := false }, kinds := [], alts := [], laidByText := true, laidKinds := [.data, .data, .data, .data, .pinned], laidTests := true, laidLooks := .later }
def NumOrderUptoCardSaid : Prop := Claim7.holds Tryd.pinned (.plain (OpenSpec.upto numOrderSpec)) numOrderUptoCard

/-- THE SECOND FORM's CARD OF 'morainelaw02.NumParts'. -/
def numPartsUptoCard : Claim7 := { stood := { row := numPartsUptoRow, standIns := [], harness := (true, "9be1bfdb47bc78ef9f41b63b54e138b91fd84edee5f84e75b134554a688a9ece"), looks := false }, kinds := [], alts := [], laidByText := true, laidKinds := [.data, .data, .data, .data, .pinned], laidTests := true, laidLooks := .later }
def NumPartsUptoCardSaid : Prop := Claim7.holds Tryd.pinned (.plain (OpenSpec.upto numPartsSpec)) numPartsUptoCard

/-- THE SECOND FORM's CARD OF 'morainelaw02.NumMay'. -/
def numMayUptoCard : Claim7 := { stood := { row := numMayUptoRow, standIns := [], harness := (true, "9be1bfdb47bc78ef9f41b63b54e138b91fd84edee5f84e75b134554a688a9ece"), looks := false }, kinds := [], alts := [], laidByText := true, laidKinds := [.data, .data, .data, .data, .pinned], laidTests := true, laidLooks := .later }
def NumMayUptoCardSaid : Prop := Claim7.holds Tryd.pinned (.plain (OpenSpec.upto numMaySpec)) numMayUptoCard

/-- THE SECOND FORM's CARD OF 'morainelaw02.NumRing'. -/
def numRingUptoCard : Claim7 := { stood := { row := numRingUptoRow, standIns := [], harness := (true, "9be1bfdb47bc78ef9f41b63b54e138b91fd84edee5f84e75b134554a688a9ece"), looks := false }, kinds := [], alts := [], laidByText := true, laidKinds := [.data, .data, .data, .data, .pinned], laidTests := true, laidLooks := .later }
def NumRingUptoCardSaid : Prop := Claim7.holds Tryd.pinned (.plain (OpenSpec.upto numRingSpec)) numRingUptoCard

/-- THE SECOND FORM's CARD OF 'morainelaw02.NumCancel'. -/
def numCancelUptoCard : Claim7 := { stood := { row := numCancelUptoRow, standIns := [], harness := (true, "9be1bfdb47bc78ef9f41b63b54e138b91fd84edee5f84e75b134554a688a9ece"), looks := false }, kinds := [], alts := [], laidByText := true, laidKinds := [.data, .data, .data, .data, .pinned], laidTests := true, laidLooks := .later }
def NumCancelUptoCardSaid : Prop := Claim7.holds Tryd.pinned (.plain (OpenSpec.upto numCancelSpec)) numCancelUptoCard

/-- THE SECOND FORM's CARD OF 'morainelaw02.NumDivision'. -/
def numDivisionUptoCard : Claim7 := { stood := { row := numDivisionUptoRow, standIns := [], harness := (true, "9be1bfdb47bc78ef9f41b63b54e138b91fd84edee5f84e75b134554a688a9ece"), looks := false }, kinds := [], alts := [], laidByText := true, laidKinds := [.data, .data, .data, .data, .pinned], laidTests := true, laidLooks := .later }
def NumDivisionUptoCardSaid : Prop := Claim7.holds Tryd.pinned (.plain (OpenSpec.upto numDivisionSpec)) numDivisionUptoCard
end Rows
end Go.Proofs.YthhpnlbeniihhaaDoor
