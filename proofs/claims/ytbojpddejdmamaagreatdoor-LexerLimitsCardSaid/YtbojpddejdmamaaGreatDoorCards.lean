/-
  DERIVED. GIVEN WITH THE SEED: THE CARDS: each row of YtbojpddejdmamaaGreatDoorRows.lean that lists a variable, with what it lists TIED to the program's text (the seventh form; the later family's looks); each row that meets fmt, with fmt's text TOLD by the authors' own Lean function (tested against real Go, not proved from fmt's source: count such statements apart). THE CARD IS WHAT COUNTS. Prove the row's statement (the work); the ties are given (YtbojpddejdmamaaGreatDoorTie.lean); close each card by the builder's one call (the guide's Derived/Test/ToyasCard.lean, 'card_holds'). Laid BY PROGRAM, IN A SANDBOX (cutbox-door.mjs). By AI agents, Wed Nov 11 2026. No macro, syntax, notation, axiom, sorry.
-/
import Derived.Test.YtbojpddejdmamaaGreatDoorRows
import GoSem.ClaimSeven
namespace Go.Proofs.YtbojpddejdmamaaGreatDoor
namespace Rows

/-- THE TIED CARD OF 'netwrightlaw03.LexerLexes'. -/
def lexerLexesCard : Claim7 := { stood := { row := lexerLexesRow, standIns := [], harness := (true, "c9e4ff1ca9f42d20042583dd89abff3118fac18980e4280275dc0e9f4c3bf43f"), looks := true }, kinds := [], alts := [], laidByText := true, laidKinds := [.data, .data, .data, .sentinel, .sentinel, .listed, .data], laidTests := true, laidLooks := .later }
def LexerLexesCardSaid : Prop := Claim7.holds Tryz.pinned (.plain (OpenSpec.ofChange lexerLexesSpec)) lexerLexesCard

/-- THE TIED CARD OF 'netwrightlaw03.LexerLimits'. -/
def lexerLimitsCard : Claim7 := { stood := { row := lexerLimitsRow, standIns := [], harness := (true, "c9e4ff1ca9f42d20042583dd89abff3118fac18980e4280275dc0e9f4c3bf43f"), looks := true }, kinds := [], alts := [], laidByText := true, laidKinds := [.data, .data, .data, .sentinel, .sentinel, .listed, .data], laidTests := true, laidLooks := .later }
def LexerLimitsCardSaid : Prop := Claim7.holds Tryz.pinned (.plain (OpenSpec.ofChange lexerLimitsSpec)) lexerLimitsCard

/-- THE TIED CARD OF 'netwrightlaw03.LexerWrites'. -/
def lexerWritesCard : Claim7 := { stood := { row := lexerWritesRow, standIns := [], harness := (true, "c9e4ff1ca9f42d20042583dd89abff3118fac18980e4280275dc0e9f4c3bf43f"), looks := true }, kinds := [], alts := [], laidByText := true, laidKinds := [.data, .data, .data, .sentinel, .sentinel, .listed, .data], laidTests := true, laidLooks := .later }
def LexerWritesCardSaid : Prop := Claim7.holds Tryz.pinned (.plain (OpenSpec.ofChange lexerWritesSpec)) lexerWritesCard

/-- THE SECOND FORM's CARD OF 'netwrightlaw03.LexerLexes'. -/
def lexerLexesUptoCard : Claim7 := { stood := { row := lexerLexesUptoRow, standIns := [], harness := (true, "c9e4ff1ca9f42d20042583dd89abff3118fac18980e4280275dc0e9f4c3bf43f"), looks := true }, kinds := [], alts := [], laidByText := true, laidKinds := [.data, .data, .data, .sentinel, .sentinel, .listed, .data], laidTests := true, laidLooks := .later }
def LexerLexesUptoCardSaid : Prop := Claim7.holds Tryz.pinned (.plain (OpenSpec.upto lexerLexesSpec)) lexerLexesUptoCard

/-- THE SECOND FORM's CARD OF 'netwrightlaw03.LexerLimits'. -/
def lexerLimitsUptoCard : Claim7 := { stood := { row := lexerLimitsUptoRow, standIns := [], harness := (true, "c9e4ff1ca9f42d20042583dd89abff3118fac18980e4280275dc0e9f4c3bf43f"), looks := true }, kinds := [], alts := [], laidByText := true, laidKinds := [.data, .data, .data, .sentinel, .sentinel, .listed, .data], laidTests := true, laidLooks := .later }
def LexerLimitsUptoCardSaid : Prop := Claim7.holds Tryz.pinned (.plain (OpenSpec.upto lexerLimitsSpec)) lexerLimitsUptoCard

/-- THE SECOND FORM's CARD OF 'netwrightlaw03.LexerWrites'. -/
def lexerWritesUptoCard : Claim7 := { stood := { row := lexerWritesUptoRow, standIns := [], harness := (true, "c9e4ff1ca9f42d20042583dd89abff3118fac18980e4280275dc0e9f4c3bf43f"), looks := true }, kinds := [], alts := [], laidByText := true, laidKinds := [.data, .data, .data, .sentinel, .sentinel, .listed, .data], laidTests := true, laidLooks := .later }
def LexerWritesUptoCardSaid : Prop := Claim7.holds Tryz.pinned (.plain (OpenSpec.upto lexerWritesSpec)) lexerWritesUptoCard
end Rows
end Go.Proofs.YtbojpddejdmamaaGreatDoor
