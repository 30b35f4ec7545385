/-
  DERIVED. GIVEN WITH THE SEED: THE CARDS: each row of YtlodkchnoapffaaGreatDoorRows.lean that lists a variable, with what it lists TIED to the program's text (the seventh form; the later family's looks); each row that meets fmt, with fmt's text TOLD by the authors' own Lean function (tested against real Go, not proved from fmt's source: count such statements apart). THE CARD IS WHAT COUNTS. Prove the row's statement (the work); the ties are given (YtlodkchnoapffaaGreatDoorTie.lean); close each card by the builder's one call (the guide's Derived/Test/ToyasCard.lean, 'card_holds'). Laid BY PROGRAM, IN A SANDBOX (cutbox-door.mjs). By AI agents, Wed Nov 11 2026. No macro, syntax, notation, axiom, sorry.
-/
import Derived.Test.YtlodkchnoapffaaGreatDoorRows
import GoSem.ClaimSeven
namespace Go.Proofs.YtlodkchnoapffaaGreatDoor
namespace Rows

/-- THE TIED CARD OF 'trestlelaw01.ScanNumbers'. -/
def scanNumbersCard : Claim7 := { stood := { row := scanNumbersRow, standIns := [], harness := (true, "d02ae26c97657eafcb7e4e53af157c8a1497436a4edea709ec57b3de20c90e9f"), looks := true }, kinds := [], alts := [], laidByText := true, laidKinds := [.data, .data, .data, .data, .sentinel, .sentinel, .listed, .data, .pinned, .pinned], laidTests := true, laidLooks := .later }
def ScanNumbersCardSaid : Prop := Claim7.holds Tryz.pinned (.plain (OpenSpec.ofChange scanNumbersSpec)) scanNumbersCard

/-- THE TIED CARD OF 'trestlelaw01.ScanPieces'. -/
def scanPiecesCard : Claim7 := { stood := { row := scanPiecesRow, standIns := [], harness := (true, "d02ae26c97657eafcb7e4e53af157c8a1497436a4edea709ec57b3de20c90e9f"), looks := true }, kinds := [], alts := [], laidByText := true, laidKinds := [.data, .data, .data, .data, .sentinel, .sentinel, .listed, .data, .pinned, .pinned], laidTests := true, laidLooks := .later }
def ScanPiecesCardSaid : Prop := Claim7.holds Tryz.pinned (.plain (OpenSpec.ofChange scanPiecesSpec)) scanPiecesCard

/-- THE TIED CARD OF 'trestlelaw01.ScanSpots'. -/
def scanSpotsCard : Claim7 := { stood := { row := scanSpotsRow, standIns := [], harness := (true, "d02ae26c97657eafcb7e4e53af157c8a1497436a4edea709ec57b3de20c90e9f"), looks := true }, kinds := [], alts := [], laidByText := true, laidKinds := [.data, .data, .data, .data, .sentinel, .sentinel, .listed, .data, .pinned, .pinned], laidTests := true, laidLooks := .later }
def ScanSpotsCardSaid : Prop := Claim7.holds Tryz.pinned (.plain (OpenSpec.ofChange scanSpotsSpec)) scanSpotsCard

/-- THE TIED CARD OF 'trestlelaw01.ScanAgain'. -/
def scanAgainCard : Claim7 := { stood := { row := scanAgainRow, standIns := [], harness := (true, "d02ae26c97657eafcb7e4e53af157c8a1497436a4edea709ec57b3de20c90e9f"), looks := true }, kinds := [], alts := [], laidByText := true, laidKinds := [.data, .data, .data, .data, .sentinel, .sentinel, .listed, .data, .pinned, .pinned], laidTests := true, laidLooks := .later }
def ScanAgainCardSaid : Prop := Claim7.holds Tryz.pinned (.plain (OpenSpec.ofChange scanAgainSpec)) scanAgainCard

/-- THE TIED CARD OF 'trestlelaw01.ScanWhole'. -/
def scanWholeCard : Claim7 := { stood := { row := scanWholeRow, standIns := [], harness := (true, "d02ae26c97657eafcb7e4e53af157c8a1497436a4edea709ec57b3de20c90e9f"), looks := true }, kinds := [], alts := [], laidByText := true, laidKinds := [.data, .data, .data, .data, .sentinel, .sentinel, .listed, .data, .pinned, .pinned], laidTests := true, laidLooks := .later }
def ScanWholeCardSaid : Prop := Claim7.holds Tryz.pinned (.plain (OpenSpec.ofChange scanWholeSpec)) scanWholeCard

/-- THE TIED CARD OF 'trestlelaw01.ScanBare'. -/
def scanBareCard : Claim7 := { stood := { row := scanBareRow, standIns := [], harness := (true, "d02ae26c97657eafcb7e4e53af157c8a1497436a4edea709ec57b3de20c90e9f"), looks := true }, kinds := [], alts := [], laidByText := true, laidKinds := [.data, .data, .data, .data, .sentinel, .sentinel, .listed, .data, .pinned, .pinned], laidTests := true, laidLooks := .later }
def ScanBareCardSaid : Prop := Claim7.holds Tryz.pinned (.plain (OpenSpec.ofChange scanBareSpec)) scanBareCard

/-- THE TIED CARD OF 'trestlelaw01.ScanLocal'. -/
def scanLocalCard : Claim7 := { stood := { row := scanLocalRow, standIns := [], harness := (true, "d02ae26c97657eafcb7e4e53af157c8a1497436a4edea709ec57b3de20c90e9f"), looks := true }, kinds := [], alts := [], laidByText := true, laidKinds := [.data, .data, .data, .data, .sentinel, .sentinel, .listed, .data, .pinned, .pinned], laidTests := true, laidLooks := .later }
def ScanLocalCardSaid : Prop := Claim7.holds Tryz.pinned (.plain (OpenSpec.ofChange scanLocalSpec)) scanLocalCard

/-- THE TIED CARD OF 'trestlelaw01.ScanExchanged'. -/
def scanExchangedCard : Claim7 := { stood := { row := scanExchangedRow, standIns := [], harness := (true, "d02ae26c97657eafcb7e4e53af157c8a1497436a4edea709ec57b3de20c90e9f"), looks := true }, kinds := [], alts := [], laidByText := true, laidKinds := [.data, .data, .data, .data, .sentinel, .sentinel, .listed, .data, .pinned, .pinned], laidTests := true, laidLooks := .later }
def ScanExchangedCardSaid : Prop := Claim7.holds Tryz.pinned (.plain (OpenSpec.ofChange scanExchangedSpec)) scanExchangedCard

/-- THE TIED CARD OF 'trestlelaw01.ScanOwn'. -/
def scanOwnCard : Claim7 := { stood := { row := scanOwnRow, standIns := [], harness := (true, "d02ae26c97657eafcb7e4e53af157c8a1497436a4edea709ec57b3de20c90e9f"), looks := true }, kinds := [], alts := [], laidByText := true, laidKinds := [.data, .data, .data, .data, .sentinel, .sentinel, .listed, .data, .pinned, .pinned], laidTests := true, laidLooks := .later }
def ScanOwnCardSaid : Prop := Claim7.holds Tryz.pinned (.plain (OpenSpec.ofChange scanOwnSpec)) scanOwnCard

/-- THE TIED CARD OF 'trestlelaw01.ScanWords'. -/
def scanWordsCard : Claim7 := { stood := { row := scanWordsRow, standIns := [], harness := (true, "d02ae26c97657eafcb7e4e53af157c8a1497436a4edea709ec57b3de20c90e9f"), looks := true }, kinds := [], alts := [], laidByText := true, laidKinds := [.data, .data, .data, .data, .sentinel, .sentinel, .listed, .data, .pinned, .pinned], laidTests := true, laidLooks := .later }
def ScanWordsCardSaid : Prop := Claim7.holds Tryz.pinned (.plain (OpenSpec.ofChange scanWordsSpec)) scanWordsCard

/-- THE SECOND FORM's CARD OF 'trestlelaw01.ScanNumbers'. -/
def scanNumbersUptoCard : Claim7 := { stood := { row := scanNumbersUptoRow, standIns := [], harness := (true, "d02ae26c97657eafcb7e4e53af157c8a1497436a4edea709ec57b3de20c90e9f"), looks := true }, kinds := [], alts := [], laidByText := true, laidKinds := [.data, .data, .data, .data, .sentinel, .sentinel, .listed, .data, .pinned, .pinned], laidTests := true, laidLooks := .later }
def ScanNumbersUptoCardSaid : Prop := Claim7.holds Tryz.pinned (.plain (OpenSpec.upto scanNumbersSpec)) scanNumbersUptoCard

/-- THE SECOND FORM's CARD OF 'trestlelaw01.ScanPieces'. -/
def scanPiecesUptoCard : Claim7 := { stood := { row := scanPiecesUptoRow, standIns := [], harness := (true, "d02ae26c97657eafcb7e4e53af157c8a1497436a4edea709ec57b3de20c90e9f"), looks := true }, kinds := [], alts := [], laidByText := true, laidKinds := [.data, .data, .data, .data, .sentinel, .sentinel, .listed, .data, .pinned, .pinned], laidTests := true, laidLooks := .later }
def ScanPiecesUptoCardSaid : Prop := Claim7.holds Tryz.pinned (.plain (OpenSpec.upto scanPiecesSpec)) scanPiecesUptoCard

/-- THE SECOND FORM's CARD OF 'trestlelaw01.ScanSpots'. -/
def scanSpotsUptoCard : Claim7 := { stood := { row := scanSpotsUptoRow, standIns := [], harness := (true, "d02ae26c97657eafcb7e4e53af157c8a1497436a4edea709ec57b3de20c90e9f"), looks := true }, kinds := [], alts := [], laidByText := true, laidKinds := [.data, .data, .data, .data, .sentinel, .sentinel, .listed, .data, .pinned, .pinned], laidTests := true, laidLooks := .later }
def ScanSpotsUptoCardSaid : Prop := Claim7.holds Tryz.pinned (.plain (OpenSpec.upto scanSpotsSpec)) scanSpotsUptoCard

/-- THE SECOND FORM's CARD OF 'trestlelaw01.ScanAgain'. -/
def scanAgainUptoCard : Claim7 := { stood := { row := scanAgainUptoRow, standIns := [], harness := (true, "d02ae26c97657eafcb7e4e53af157c8a1497436a4edea709ec57b3de20c90e9f"), looks := true }, kinds := [], alts := [], laidByText := true, laidKinds := [.data, .data, .data, .data, .sentinel, .sentinel, .listed, .data, .pinned, .pinned], laidTests := true, laidLooks := .later }
def ScanAgainUptoCardSaid : Prop := Claim7.holds Tryz.pinned (.plain (OpenSpec.upto scanAgainSpec)) scanAgainUptoCard

/-- THE SECOND FORM's CARD OF 'trestlelaw01.ScanWhole'. -/
def scanWholeUptoCard : Claim7 := { stood := { row := scanWholeUptoRow, standIns := [], harness := (true, "d02ae26c97657eafcb7e4e53af157c8a1497436a4edea709ec57b3de20c90e9f"), looks := true }, kinds := [], alts := [], laidByText := true, laidKinds := [.data, .data, .data, .data, .sentinel, .sentinel, .listed, .data, .pinned, .pinned], laidTests := true, laidLooks := .later }
def ScanWholeUptoCardSaid : Prop := Claim7.holds Tryz.pinned (.plain (OpenSpec.upto scanWholeSpec)) scanWholeUptoCard

/-- THE SECOND FORM's CARD OF 'trestlelaw01.ScanBare'. -/
def scanBareUptoCard : Claim7 := { stood := { row := scanBareUptoRow, standIns := [], harness := (true, "d02ae26c97657eafcb7e4e53af157c8a1497436a4edea709ec57b3de20c90e9f"), looks := true }, kinds := [], alts := [], laidByText := true, laidKinds := [.data, .data, .data, .data, .sentinel, .sentinel, .listed, .data, .pinned, .pinned], laidTests := true, laidLooks := .later }
def ScanBareUptoCardSaid : Prop := Claim7.holds Tryz.pinned (.plain (OpenSpec.upto scanBareSpec)) scanBareUptoCard

/-- THE SECOND FORM's CARD OF 'trestlelaw01.ScanLocal'. -/
def scanLocalUptoCard : Claim7 := { stood := { row := scanLocalUptoRow, standIns := [], harness := (true, "d02ae26c97657eafcb7e4e53af157c8a1497436a4edea709ec57b3de20c90e9f"), looks := true }, kinds := [], alts := [], laidByText := true, laidKinds := [.data, .data, .data, .data, .sentinel, .sentinel, .listed, .data, .pinned, .pinned], laidTests := true, laidLooks := .later }
def ScanLocalUptoCardSaid : Prop := Claim7.holds Tryz.pinned (.plain (OpenSpec.upto scanLocalSpec)) scanLocalUptoCard

/-- THE SECOND FORM's CARD OF 'trestlelaw01.ScanExchanged'. -/
def scanExchangedUptoCard : Claim7 := { stood := { row := scanExchangedUptoRow, standIns := [], harness := (true, "d02ae26c97657eafcb7e4e53af157c8a1497436a4edea709ec57b3de20c90e9f"), looks := true }, kinds := [], alts := [], laidByText := true, laidKinds := [.data, .data, .data, .data, .sentinel, .sentinel, .listed, .data, .pinned, .pinned], laidTests := true, laidLooks := .later }
def ScanExchangedUptoCardSaid : Prop := Claim7.holds Tryz.pinned (.plain (OpenSpec.upto scanExchangedSpec)) scanExchangedUptoCard

/-- THE SECOND FORM's CARD OF 'trestlelaw01.ScanOwn'. -/
def scanOwnUptoCard : Claim7 := { stood := { row := scanOwnUptoRow, standIns := [], harness := (true, "d02ae26c97657eafcb7e4e53af157c8a1497436a4edea709ec57b3de20c90e9f"), looks := true }, kinds := [], alts := [], laidByText := true, laidKinds := [.data, .data, .data, .data, .sentinel, .sentinel, .listed, .data, .pinned, .pinned], laidTests := true, laidLooks := .later }
def ScanOwnUptoCardSaid : Prop := Claim7.holds Tryz.pinned (.plain (OpenSpec.upto scanOwnSpec)) scanOwnUptoCard

/-- THE SECOND FORM's CARD OF 'trestlelaw01.ScanWords'. -/
def scanWordsUptoCard : Claim7 := { stood := { row := scanWordsUptoRow, standIns := [], harness := (true, "d02ae26c97657eafcb7e4e53af157c8a1497436a4edea709ec57b3de20c90e9f"), looks := true }, kinds := [], alts := [], laidByText := true, laidKinds := [.data, .data, .data, .data, .sentinel, .sentinel, .listed, .data, .pinned, .pinned], laidTests := true, laidLooks := .later }
def ScanWordsUptoCardSaid : Prop := Claim7.holds Tryz.pinned (.plain (OpenSpec.upto scanWordsSpec)) scanWordsUptoCard
end Rows
end Go.Proofs.YtlodkchnoapffaaGreatDoor
