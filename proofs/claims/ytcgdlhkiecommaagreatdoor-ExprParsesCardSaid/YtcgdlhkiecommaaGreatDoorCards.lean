/-
  DERIVED. GIVEN WITH THE SEED: THE CARDS: each row of YtcgdlhkiecommaaGreatDoorRows.lean that lists a variable, with what it lists TIED to the program's text (the seventh form; the later family's looks); each row that meets fmt, with fmt's text TOLD by the authors' own Lean function (tested against real Go, not proved from fmt's source: count such statements apart). THE CARD IS WHAT COUNTS. Prove the row's statement (the work); the ties are given (YtcgdlhkiecommaaGreatDoorTie.lean); close each card by the builder's one call (the guide's Derived/Test/ToyasCard.lean, 'card_holds'). Laid BY PROGRAM, IN A SANDBOX (cutbox-door.mjs). By AI agents, Wed Nov 11 2026. No macro, syntax, notation, axiom, sorry.
-/
import Derived.Test.YtcgdlhkiecommaaGreatDoorRows
import GoSem.ClaimSeven
namespace Go.Proofs.YtcgdlhkiecommaaGreatDoor
namespace Rows

/-- THE TIED CARD OF 'netwrightlaw05.ExprParses'. -/
def exprParsesCard : Claim7 := { stood := { row := exprParsesRow, standIns := [], harness := (true, "e997ce04a0e191b5e2d9592f5195eeefba54be02c6cfbd3df57924cc14766a68"), looks := true }, kinds := [], alts := [], laidByText := true, laidKinds := [.data, .data, .data, .listed, .data], laidTests := true, laidLooks := .later }
def ExprParsesCardSaid : Prop := Claim7.holds Tryz.pinned (.plain (OpenSpec.ofChange exprParsesSpec)) exprParsesCard

/-- THE TIED CARD OF 'netwrightlaw05.ExprWrites'. -/
def exprWritesCard : Claim7 := { stood := { row := exprWritesRow, standIns := [], harness := (true, "e997ce04a0e191b5e2d9592f5195eeefba54be02c6cfbd3df57924cc14766a68"), looks := true }, kinds := [], alts := [], laidByText := true, laidKinds := [.data, .data, .data, .listed, .data], laidTests := true, laidLooks := .later }
def ExprWritesCardSaid : Prop := Claim7.holds Tryz.pinned (.plain (OpenSpec.ofChange exprWritesSpec)) exprWritesCard

/-- THE TIED CARD OF 'netwrightlaw05.ExprTypes'. -/
def exprTypesCard : Claim7 := { stood := { row := exprTypesRow, standIns := [], harness := (true, "e997ce04a0e191b5e2d9592f5195eeefba54be02c6cfbd3df57924cc14766a68"), looks := true }, kinds := [], alts := [], laidByText := true, laidKinds := [.data, .data, .data, .listed, .data], laidTests := true, laidLooks := .later }
def ExprTypesCardSaid : Prop := Claim7.holds Tryz.pinned (.plain (OpenSpec.ofChange exprTypesSpec)) exprTypesCard

/-- THE TIED CARD OF 'netwrightlaw05.ExprSames'. -/
def exprSamesCard : Claim7 := { stood := { row := exprSamesRow, standIns := [], harness := (true, "e997ce04a0e191b5e2d9592f5195eeefba54be02c6cfbd3df57924cc14766a68"), looks := true }, kinds := [], alts := [], laidByText := true, laidKinds := [.data, .data, .data, .listed, .data], laidTests := true, laidLooks := .later }
def ExprSamesCardSaid : Prop := Claim7.holds Tryz.pinned (.plain (OpenSpec.ofChange exprSamesSpec)) exprSamesCard

/-- THE TIED CARD OF 'netwrightlaw05.ExprBack'. -/
def exprBackCard : Claim7 := { stood := { row := exprBackRow, standIns := [], harness := (true, "e997ce04a0e191b5e2d9592f5195eeefba54be02c6cfbd3df57924cc14766a68"), looks := true }, kinds := [], alts := [], laidByText := true, laidKinds := [.data, .data, .data, .listed, .data], laidTests := true, laidLooks := .later }
def ExprBackCardSaid : Prop := Claim7.holds Tryz.pinned (.plain (OpenSpec.ofChange exprBackSpec)) exprBackCard

/-- THE TIED CARD OF 'netwrightlaw05.ExprShort'. -/
def exprShortCard : Claim7 := { stood := { row := exprShortRow, standIns := [], harness := (true, "e997ce04a0e191b5e2d9592f5195eeefba54be02c6cfbd3df57924cc14766a68"), looks := true }, kinds := [], alts := [], laidByText := true, laidKinds := [.data, .data, .data, .listed, .data], laidTests := true, laidLooks := .later }
def ExprShortCardSaid : Prop := Claim7.holds Tryz.pinned (.plain (OpenSpec.ofChange exprShortSpec)) exprShortCard

/-- THE TIED CARD OF 'netwrightlaw05.ExprBrackets'. -/
def exprBracketsCard : Claim7 := { stood := { row := exprBracketsRow, standIns := [], harness := (true, "e997ce04a0e191b5e2d9592f5195eeefba54be02c6cfbd3df57924cc14766a68"), looks := true }, kinds := [], alts := [], laidByText := true, laidKinds := [.data, .data, .data, .listed, .data], laidTests := true, laidLooks := .later }
def ExprBracketsCardSaid : Prop := Claim7.holds Tryz.pinned (.plain (OpenSpec.ofChange exprBracketsSpec)) exprBracketsCard

/-- THE TIED CARD OF 'netwrightlaw05.ExprNames'. -/
def exprNamesCard : Claim7 := { stood := { row := exprNamesRow, standIns := [], harness := (true, "e997ce04a0e191b5e2d9592f5195eeefba54be02c6cfbd3df57924cc14766a68"), looks := true }, kinds := [], alts := [], laidByText := true, laidKinds := [.data, .data, .data, .listed, .data], laidTests := true, laidLooks := .later }
def ExprNamesCardSaid : Prop := Claim7.holds Tryz.pinned (.plain (OpenSpec.ofChange exprNamesSpec)) exprNamesCard

/-- THE SECOND FORM's CARD OF 'netwrightlaw05.ExprParses'. -/
def exprParsesUptoCard : Claim7 := { stood := { row := exprParsesUptoRow, standIns := [], harness := (true, "e997ce04a0e191b5e2d9592f5195eeefba54be02c6cfbd3df57924cc14766a68"), looks := true }, kinds := [], alts := [], laidByText := true, laidKinds := [.data, .data, .data, .listed, .data], laidTests := true, laidLooks := .later }
def ExprParsesUptoCardSaid : Prop := Claim7.holds Tryz.pinned (.plain (OpenSpec.upto exprParsesSpec)) exprParsesUptoCard

/-- THE SECOND FORM's CARD OF 'netwrightlaw05.ExprWrites'. -/
def exprWritesUptoCard : Claim7 := { stood := { row := exprWritesUptoRow, standIns := [], harness := (true, "e997ce04a0e191b5e2d9592f5195eeefba54be02c6cfbd3df57924cc14766a68"), looks := true }, kinds := [], alts := [], laidByText := true, laidKinds := [.data, .data, .data, .listed, .data], laidTests := true, laidLooks := .later }
def ExprWritesUptoCardSaid : Prop := Claim7.holds Tryz.pinned (.plain (OpenSpec.upto exprWritesSpec)) exprWritesUptoCard

/-- THE SECOND FORM's CARD OF 'netwrightlaw05.ExprTypes'. -/
def exprTypesUptoCard : Claim7 := { stood := { row := exprTypesUptoRow, standIns := [], harness := (true, "e997ce04a0e191b5e2d9592f5195eeefba54be02c6cfbd3df57924cc14766a68"), looks := true }, kinds := [], alts := [], laidByText := true, laidKinds := [.data, .data, .data, .listed, .data], laidTests := true, laidLooks := .later }
def ExprTypesUptoCardSaid : Prop := Claim7.holds Tryz.pinned (.plain (OpenSpec.upto exprTypesSpec)) exprTypesUptoCard

/-- THE SECOND FORM's CARD OF 'netwrightlaw05.ExprSames'. -/
def exprSamesUptoCard : Claim7 := { stood := { row := exprSamesUptoRow, standIns := [], harness := (true, "e997ce04a0e191b5e2d9592f5195eeefba54be02c6cfbd3df57924cc14766a68"), looks := true }, kinds := [], alts := [], laidByText := true, laidKinds := [.data, .data, .data, .listed, .data], laidTests := true, laidLooks := .later }
def ExprSamesUptoCardSaid : Prop := Claim7.holds Tryz.pinned (.plain (OpenSpec.upto exprSamesSpec)) exprSamesUptoCard

/-- THE SECOND FORM's CARD OF 'netwrightlaw05.ExprBack'. -/
def exprBackUptoCard : Claim7 := { stood := { row := exprBackUptoRow, standIns := [], harness := (true, "e997ce04a0e191b5e2d9592f5195eeefba54be02c6cfbd3df57924cc14766a68"), looks := true }, kinds := [], alts := [], laidByText := true, laidKinds := [.data, .data, .data, .listed, .data], laidTests := true, laidLooks := .later }
def ExprBackUptoCardSaid : Prop := Claim7.holds Tryz.pinned (.plain (OpenSpec.upto exprBackSpec)) exprBackUptoCard

/-- THE SECOND FORM's CARD OF 'netwrightlaw05.ExprShort'. -/
def exprShortUptoCard : Claim7 := { stood := { row := exprShortUptoRow, standIns := [], harness := (true, "e997ce04a0e191b5e2d9592f5195eeefba54be02c6cfbd3df57924cc14766a68"), looks := true }, kinds := [], alts := [], laidByText := true, laidKinds := [.data, .data, .data, .listed, .data], laidTests := true, laidLooks := .later }
def ExprShortUptoCardSaid : Prop := Claim7.holds Tryz.pinned (.plain (OpenSpec.upto exprShortSpec)) exprShortUptoCard

/-- THE SECOND FORM's CARD OF 'netwrightlaw05.ExprBrackets'. -/
def exprBracketsUptoCard : Claim7 := { stood := { row := exprBracketsUptoRow, standIns := [], harness := (true, "e997ce04a0e191b5e2d9592f5195eeefba54be02c6cfbd3df57924cc14766a68"), looks := true }, kinds := [], alts := [], laidByText := true, laidKinds := [.data, .data, .data, .listed, .data], laidTests := true, laidLooks := .later }
def ExprBracketsUptoCardSaid : Prop := Claim7.holds Tryz.pinned (.plain (OpenSpec.upto exprBracketsSpec)) exprBracketsUptoCard

/-- THE SECOND FORM's CARD OF 'netwrightlaw05.ExprNames'. -/
def exprNamesUptoCard : Claim7 := { stood := { row := exprNamesUptoRow, standIns := [], harness := (true, "e997ce04a0e191b5e2d9592f5195eeefba54be02c6cfbd3df57924cc14766a68"), looks := true }, kinds := [], alts := [], laidByText := true, laidKinds := [.data, .data, .data, .listed, .data], laidTests := true, laidLooks := .later }
def ExprNamesUptoCardSaid : Prop := Claim7.holds Tryz.pinned (.plain (OpenSpec.upto exprNamesSpec)) exprNamesUptoCard
end Rows
end Go.Proofs.YtcgdlhkiecommaaGreatDoor
