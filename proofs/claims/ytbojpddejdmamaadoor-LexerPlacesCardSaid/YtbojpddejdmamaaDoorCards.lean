/-
  DERIVED. GIVEN WITH THE SEED: THE CARDS: each row of YtbojpddejdmamaaDoorRows.lean that lists a variable, with what it lists TIED to the program's text (the seventh form; the later family's looks); each row that meets fmt, with fmt's text TOLD by the authors' own Lean function (tested against real Go, not proved from fmt's source: count such statements apart). THE CARD IS WHAT COUNTS. Prove the row's statement (the work); the ties are given (YtbojpddejdmamaaDoorTie.lean); close each card by the builder's one call (the guide's Derived/Test/ToyasCard.lean, 'card_holds'). Laid BY PROGRAM, IN A SANDBOX (cutbox-door.mjs). By AI agents, Wed Nov 11 2026. No macro, syntax, notation, axiom, sorry.
-/
import Derived.Test.YtbojpddejdmamaaDoorRows
import GoSem.ClaimSeven
namespace Go.Proofs.YtbojpddejdmamaaDoor
namespace Rows

/-- THE TIED CARD OF 'netwrightlaw03.LexerNames'. -/
def lexerNamesCard : Claim7 := { stood := { row := lexerNamesRow, standIns := [], harness := (true, "2e895a18bec57ab33b8e0ea0c4e97e8f9c22dded7b547f3b3133e4fec213d6de"), looks := true }, kinds := [], alts := [], laidByText := true, laidKinds := [.data, .data, .data, .sentinel, .sentinel, .listed, .data], laidTests := true, laidLooks := .later }
def LexerNamesCardSaid : Prop := Claim7.holds Tryd.pinned (.plain (OpenSpec.ofChange lexerNamesSpec)) lexerNamesCard

/-- THE TIED CARD OF 'netwrightlaw03.LexerBack'. -/
def lexerBackCard : Claim7 := { stood := { row := lexerBackRow, standIns := [], harness := (true, "2e895a18bec57ab33b8e0ea0c4e97e8f9c22dded7b547f3b3133e4fec213d6de"), looks := true }, kinds := [], alts := [], laidByText := true, laidKinds := [.data, .data, .data, .sentinel, .sentinel, .listed, .data], laidTests := true, laidLooks := .later }
def LexerBackCardSaid : Prop := Claim7.holds Tryd.pinned (.plain (OpenSpec.ofChange lexerBackSpec)) lexerBackCard

/-- THE TIED CARD OF 'netwrightlaw03.LexerTwice'. -/
def lexerTwiceCard : Claim7 := { stood := { row := lexerTwiceRow, standIns := [], harness := (true, "2e895a18bec57ab33b8e0ea0c4e97e8f9c22dded7b547f3b3133e4fec213d6de"), looks := true }, kinds := [], alts := [], laidByText := true, laidKinds := [.data, .data, .data, .sentinel, .sentinel, .listed, .data], laidTests := true, laidLooks := .later }
def LexerTwiceCardSaid : Prop := Claim7.holds Tryd.pinned (.plain (OpenSpec.ofChange lexerTwiceSpec)) lexerTwiceCard

/-- THE TIED CARD OF 'netwrightlaw03.LexerBlanks'. -/
def lexerBlanksCard : Claim7 := { stood := { row := lexerBlanksRow, standIns := [], harness := (true, "2e895a18bec57ab33b8e0ea0c4e97e8f9c22dded7b547f3b3133e4fec213d6de"), looks := true }, kinds := [], alts := [], laidByText := true, laidKinds := [.data, .data, .data, .sentinel, .sentinel, .listed, .data], laidTests := true, laidLooks := .later }
def LexerBlanksCardSaid : Prop := Claim7.holds Tryd.pinned (.plain (OpenSpec.ofChange lexerBlanksSpec)) lexerBlanksCard

/-- THE TIED CARD OF 'netwrightlaw03.LexerPlaces'. -/
def lexerPlacesCard : Claim7 := { stood := { row := lexerPlacesRow, standIns := [], harness := (true, "2e895a18bec57ab33b8e0ea0c4e97e8f9c22dded7b547f3b3133e4fec213d6de"), looks := true }, kinds := [], alts := [], laidByText := true, laidKinds := [.data, .data, .data, .sentinel, .sentinel, .listed, .data], laidTests := true, laidLooks := .later }
def LexerPlacesCardSaid : Prop := Claim7.holds Tryd.pinned (.plain (OpenSpec.ofChange lexerPlacesSpec)) lexerPlacesCard

/-- THE TIED CARD OF 'netwrightlaw03.LexerStops'. -/
def lexerStopsCard : Claim7 := { stood := { row := lexerStopsRow, standIns := [], harness := (true, "2e895a18bec57ab33b8e0ea0c4e97e8f9c22dded7b547f3b3133e4fec213d6de"), looks := true }, kinds := [], alts := [], laidByText := true, laidKinds := [.data, .data, .data, .sentinel, .sentinel, .listed, .data], laidTests := true, laidLooks := .later }
def LexerStopsCardSaid : Prop := Claim7.holds Tryd.pinned (.plain (OpenSpec.ofChange lexerStopsSpec)) lexerStopsCard

/-- THE SECOND FORM's CARD OF 'netwrightlaw03.LexerNames'. -/
def lexerNamesUptoCard : Claim7 := { stood := { row := lexerNamesUptoRow, standIns := [], harness := (true, "2e895a18bec57ab33b8e0ea0c4e97e8f9c22dded7b547f3b3133e4fec213d6de"), looks := true }, kinds := [], alts := [], laidByText := true, laidKinds := [.data, .data, .data, .sentinel, .sentinel, .listed, .data], laidTests := true, laidLooks := .later }
def LexerNamesUptoCardSaid : Prop := Claim7.holds Tryd.pinned (.plain (OpenSpec.upto lexerNamesSpec)) lexerNamesUptoCard

/-- THE SECOND FORM's CARD OF 'netwrightlaw03.LexerBack'. -/
def lexerBackUptoCard : Claim7 := { stood := { row := lexerBackUptoRow, standIns := [], harness := (true, "2e895a18bec57ab33b8e0ea0c4e97e8f9c22dded7b547f3b3133e4fec213d6de"), looks := true }, kinds := [], alts := [], laidByText := true, laidKinds := [.data, .data, .data, .sentinel, .sentinel, .listed, .data], laidTests := true, laidLooks := .later }
def LexerBackUptoCardSaid : Prop := Claim7.holds Tryd.pinned (.plain (OpenSpec.upto lexerBackSpec)) lexerBackUptoCard

/-- THE SECOND FORM's CARD OF 'netwrightlaw03.LexerTwice'. -/
def lexerTwiceUptoCard : Claim7 := { stood := { row := lexerTwiceUptoRow, standIns := [], harness := (true, "2e895a18bec57ab33b8e0ea0c4e97e8f9c22dded7b547f3b3133e4fec213d6de"), looks := true }, kinds := [], alts := [], laidByText := true, laidKinds := [.data, .data, .data, .sentinel, .sentinel, .listed, .data], laidTests := true, laidLooks := .later }
def LexerTwiceUptoCardSaid : Prop := Claim7.holds Tryd.pinned (.plain (OpenSpec.upto lexerTwiceSpec)) lexerTwiceUptoCard

/-- THE SECOND FORM's CARD OF 'netwrightlaw03.LexerBlanks'. -/
def lexerBlanksUptoCard : Claim7 := { stood := { row := lexerBlanksUptoRow, standIns := [], harness := (true, "2e895a18bec57ab33b8e0ea0c4e97e8f9c22dded7b547f3b3133e4fec213d6de"), looks := true }, kinds := [], alts := [], laidByText := true, laidKinds := [.data, .data, .data, .sentinel, .sentinel, .listed, .data], laidTests := true, laidLooks := .later }
def LexerBlanksUptoCardSaid : Prop := Claim7.holds Tryd.pinned (.plain (OpenSpec.upto lexerBlanksSpec)) lexerBlanksUptoCard

/-- THE SECOND FORM's CARD OF 'netwrightlaw03.LexerPlaces'. -/
def lexerPlacesUptoCard : Claim7 := { stood := { row := lexerPlacesUptoRow, standIns := [], harness := (true, "2e895a18bec57ab33b8e0ea0c4e97e8f9c22dded7b547f3b3133e4fec213d6de"), looks := true }, kinds := [], alts := [], laidByText := true, laidKinds := [.data, .data, .data, .sentinel, .sentinel, .listed, .data], laidTests := true, laidLooks := .later }
def LexerPlacesUptoCardSaid : Prop := Claim7.holds Tryd.pinned (.plain (OpenSpec.upto lexerPlacesSpec)) lexerPlacesUptoCard

/-- THE SECOND FORM's CARD OF 'netwrightlaw03.LexerStops'. -/
def lexerStopsUptoCard : Claim7 := { stood := { row := lexerStopsUptoRow, standIns := [], harness := (true, "2e895a18bec57ab33b8e0ea0c4e97e8f9c22dded7b547f3b3133e4fec213d6de"), looks := true }, kinds := [], alts := [], laidByText := true, laidKinds := [.data, .data, .data, .sentinel, .sentinel, .listed, .data], laidTests := true, laidLooks := .later }
def LexerStopsUptoCardSaid : Prop := Claim7.holds Tryd.pinned (.plain (OpenSpec.upto lexerStopsSpec)) lexerStopsUptoCard
end Rows
end Go.Proofs.YtbojpddejdmamaaDoor
