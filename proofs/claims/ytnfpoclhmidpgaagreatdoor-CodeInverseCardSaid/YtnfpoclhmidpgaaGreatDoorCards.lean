/-
  DERIVED. GIVEN WITH THE SEED: THE CARDS: each row of YtnfpoclhmidpgaaGreatDoorRows.lean that lists a variable, with what it lists TIED to the program's text (the seventh form; the later family's looks); each row that meets fmt, with fmt's text TOLD by the authors' own Lean function (tested against real Go, not proved from fmt's source: count such statements apart). THE CARD IS WHAT COUNTS. Prove the row's statement (the work); the ties are given (YtnfpoclhmidpgaaGreatDoorTie.lean); close each card by the builder's one call (the guide's Derived/Test/ToyasCard.lean, 'card_holds'). Laid BY PROGRAM, IN A SANDBOX (cutbox-door.mjs). By AI agents, Wed Nov 11 2026. No macro, syntax, notation, axiom, sorry.
-/
import Derived.Test.YtnfpoclhmidpgaaGreatDoorRows
import GoSem.ClaimSeven
namespace Go.Proofs.YtnfpoclhmidpgaaGreatDoor
namespace Rows

/-- THE TIED CARD OF 'trestlelaw15.CodeEncodes'. -/
def codeEncodesCard : Claim7 := { stood := { row := codeEncodesRow, standIns := [], harness := (true, "38cb48cba00e4f9beffe54e56f5b75e9fd5ad66057cdb564375641c327a061fb"), looks := true }, kinds := [], alts := [], laidByText := true, laidKinds := [.data, .data, .data], laidTests := true, laidLooks := .later }
def CodeEncodesCardSaid : Prop := Claim7.holds Tryz.pinned (.plain (OpenSpec.ofChange codeEncodesSpec)) codeEncodesCard

/-- THE TIED CARD OF 'trestlelaw15.CodeDecodes'. -/
def codeDecodesCard : Claim7 := { stood := { row := codeDecodesRow, standIns := [], harness := (true, "38cb48cba00e4f9beffe54e56f5b75e9fd5ad66057cdb564375641c327a061fb"), looks := true }, kinds := [], alts := [], laidByText := true, laidKinds := [.data, .data, .data], laidTests := true, laidLooks := .later }
def CodeDecodesCardSaid : Prop := Claim7.holds Tryz.pinned (.plain (OpenSpec.ofChange codeDecodesSpec)) codeDecodesCard

/-- THE TIED CARD OF 'trestlelaw15.CodeBacks'. -/
def codeBacksCard : Claim7 := { stood := { row := codeBacksRow, standIns := [], harness := (true, "38cb48cba00e4f9beffe54e56f5b75e9fd5ad66057cdb564375641c327a061fb"), looks := true }, kinds := [], alts := [], laidByText := true, laidKinds := [.data, .data, .data], laidTests := true, laidLooks := .later }
def CodeBacksCardSaid : Prop := Claim7.holds Tryz.pinned (.plain (OpenSpec.ofChange codeBacksSpec)) codeBacksCard

/-- THE TIED CARD OF 'trestlelaw15.CodeWhole'. -/
def codeWholeCard : Claim7 := { stood := { row := codeWholeRow, standIns := [], harness := (true, "38cb48cba00e4f9beffe54e56f5b75e9fd5ad66057cdb564375641c327a061fb"), looks := true }, kinds := [], alts := [], laidByText := true, laidKinds := [.data, .data, .data], laidTests := true, laidLooks := .later }
def CodeWholeCardSaid : Prop := Claim7.holds Tryz.pinned (.plain (OpenSpec.ofChange codeWholeSpec)) codeWholeCard

/-- THE TIED CARD OF 'trestlelaw15.CodeNumbers'. -/
def codeNumbersCard : Claim7 := { stood := { row := codeNumbersRow, standIns := [], harness := (true, "38cb48cba00e4f9beffe54e56f5b75e9fd5ad66057cdb564375641c327a061fb"), looks := true }, kinds := [], alts := [], laidByText := true, laidKinds := [.data, .data, .data], laidTests := true, laidLooks := .later }
def CodeNumbersCardSaid : Prop := Claim7.holds Tryz.pinned (.plain (OpenSpec.ofChange codeNumbersSpec)) codeNumbersCard

/-- THE TIED CARD OF 'trestlelaw15.CodeTorn'. -/
def codeTornCard : Claim7 := { stood := { row := codeTornRow, standIns := [], harness := (true, "38cb48cba00e4f9beffe54e56f5b75e9fd5ad66057cdb564375641c327a061fb"), looks := true }, kinds := [], alts := [], laidByText := true, laidKinds := [.data, .data, .data], laidTests := true, laidLooks := .later }
def CodeTornCardSaid : Prop := Claim7.holds Tryz.pinned (.plain (OpenSpec.ofChange codeTornSpec)) codeTornCard

/-- THE TIED CARD OF 'trestlelaw15.CodeReads'. -/
def codeReadsCard : Claim7 := { stood := { row := codeReadsRow, standIns := [], harness := (true, "38cb48cba00e4f9beffe54e56f5b75e9fd5ad66057cdb564375641c327a061fb"), looks := true }, kinds := [], alts := [], laidByText := true, laidKinds := [.data, .data, .data], laidTests := true, laidLooks := .later }
def CodeReadsCardSaid : Prop := Claim7.holds Tryz.pinned (.plain (OpenSpec.ofChange codeReadsSpec)) codeReadsCard

/-- THE TIED CARD OF 'trestlelaw15.CodeInverse'. -/
def codeInverseCard : Claim7 := { stood := { row := codeInverseRow, standIns := [], harness := (true, "38cb48cba00e4f9beffe54e56f5b75e9fd5ad66057cdb564375641c327a061fb"), looks := true }, kinds := [], alts := [], laidByText := true, laidKinds := [.data, .data, .data], laidTests := true, laidLooks := .later }
def CodeInverseCardSaid : Prop := Claim7.holds Tryz.pinned (.plain (OpenSpec.ofChange codeInverseSpec)) codeInverseCard

/-- THE SECOND FORM's CARD OF 'trestlelaw15.CodeEncodes'. -/
def codeEncodesUptoCard : Claim7 := { stood := { row := codeEncodesUptoRow, standIns := [], harness := (true, "38cb48cba00e4f9beffe54e56f5b75e9fd5ad66057cdb564375641c327a061fb"), looks := true }, kinds := [], alts := [], laidByText := true, laidKinds := [.data, .data, .data], laidTests := true, laidLooks := .later }
def CodeEncodesUptoCardSaid : Prop := Claim7.holds Tryz.pinned (.plain (OpenSpec.upto codeEncodesSpec)) codeEncodesUptoCard

/-- THE SECOND FORM's CARD OF 'trestlelaw15.CodeDecodes'. -/
def codeDecodesUptoCard : Claim7 := { stood := { row := codeDecodesUptoRow, standIns := [], harness := (true, "38cb48cba00e4f9beffe54e56f5b75e9fd5ad66057cdb564375641c327a061fb"), looks := true }, kinds := [], alts := [], laidByText := true, laidKinds := [.data, .data, .data], laidTests := true, laidLooks := .later }
def CodeDecodesUptoCardSaid : Prop := Claim7.holds Tryz.pinned (.plain (OpenSpec.upto codeDecodesSpec)) codeDecodesUptoCard

/-- THE SECOND FORM's CARD OF 'trestlelaw15.CodeBacks'. -/
def codeBacksUptoCard : Claim7 := { stood := { row := codeBacksUptoRow, standIns := [], harness := (true, "38cb48cba00e4f9beffe54e56f5b75e9fd5ad66057cdb564375641c327a061fb"), looks := true }, kinds := [], alts := [], laidByText := true, laidKinds := [.data, .data, .data], laidTests := true, laidLooks := .later }
def CodeBacksUptoCardSaid : Prop := Claim7.holds Tryz.pinned (.plain (OpenSpec.upto codeBacksSpec)) codeBacksUptoCard

/-- THE SECOND FORM's CARD OF 'trestlelaw15.CodeWhole'. -/
def codeWholeUptoCard : Claim7 := { stood := { row := codeWholeUptoRow, standIns := [], harness := (true, "38cb48cba00e4f9beffe54e56f5b75e9fd5ad66057cdb564375641c327a061fb"), looks := true }, kinds := [], alts := [], laidByText := true, laidKinds := [.data, .data, .data], laidTests := true, laidLooks := .later }
def CodeWholeUptoCardSaid : Prop := Claim7.holds Tryz.pinned (.plain (OpenSpec.upto codeWholeSpec)) codeWholeUptoCard

/-- THE SECOND FORM's CARD OF 'trestlelaw15.CodeNumbers'. -/
def codeNumbersUptoCard : Claim7 := { stood := { row := codeNumbersUptoRow, standIns := [], harness := (true, "38cb48cba00e4f9beffe54e56f5b75e9fd5ad66057cdb564375641c327a061fb"), looks := true }, kinds := [], alts := [], laidByText := true, laidKinds := [.data, .data, .data], laidTests := true, laidLooks := .later }
def CodeNumbersUptoCardSaid : Prop := Claim7.holds Tryz.pinned (.plain (OpenSpec.upto codeNumbersSpec)) codeNumbersUptoCard

/-- THE SECOND FORM's CARD OF 'trestlelaw15.CodeTorn'. -/
def codeTornUptoCard : Claim7 := { stood := { row := codeTornUptoRow, standIns := [], harness := (true, "38cb48cba00e4f9beffe54e56f5b75e9fd5ad66057cdb564375641c327a061fb"), looks := true }, kinds := [], alts := [], laidByText := true, laidKinds := [.data, .data, .data], laidTests := true, laidLooks := .later }
def CodeTornUptoCardSaid : Prop := Claim7.holds Tryz.pinned (.plain (OpenSpec.upto codeTornSpec)) codeTornUptoCard

/-- THE SECOND FORM's CARD OF 'trestlelaw15.CodeReads'. -/
def codeReadsUptoCard : Claim7 := { stood := { row := codeReadsUptoRow, standIns := [], harness := (true, "38cb48cba00e4f9beffe54e56f5b75e9fd5ad66057cdb564375641c327a061fb"), looks := true }, kinds := [], alts := [], laidByText := true, laidKinds := [.data, .data, .data], laidTests := true, laidLooks := .later }
def CodeReadsUptoCardSaid : Prop := Claim7.holds Tryz.pinned (.plain (OpenSpec.upto codeReadsSpec)) codeReadsUptoCard

/-- THE SECOND FORM's CARD OF 'trestlelaw15.CodeInverse'. -/
def codeInverseUptoCard : Claim7 := { stood := { row := codeInverseUptoRow, standIns := [], harness := (true, "38cb48cba00e4f9beffe54e56f5b75e9fd5ad66057cdb564375641c327a061fb"), looks := true }, kinds := [], alts := [], laidByText := true, laidKinds := [.data, .data, .data], laidTests := true, laidLooks := .later }
def CodeInverseUptoCardSaid : Prop := Claim7.holds Tryz.pinned (.plain (OpenSpec.upto codeInverseSpec)) codeInverseUptoCard
end Rows
end Go.Proofs.YtnfpoclhmidpgaaGreatDoor
