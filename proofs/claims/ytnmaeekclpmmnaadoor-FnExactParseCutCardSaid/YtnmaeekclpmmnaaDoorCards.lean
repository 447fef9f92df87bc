/-
  DERIVED. GIVEN WITH THE SEED: THE CARDS: each row of YtnmaeekclpmmnaaDoorRows.lean that lists a variable, with what it lists TIED to the program's text (the seventh form; the later family's looks); each row that meets fmt, with fmt's text TOLD by the authors' own Lean function (tested against real Go, not proved from fmt's source: count such statements apart). THE CARD IS WHAT COUNTS. Prove the row's statement (the work); the ties are given (YtnmaeekclpmmnaaDoorTie.lean); close each card by the builder's one call (the guide's Derived/Test/ToyasCard.lean, 'card_holds'). Laid BY PROGRAM, IN A SANDBOX (cutbox-door.mjs). By AI agents, Wed Nov 11 2026. No macro, syntax, notation, axiom, sorry.
-/
import Derived.Test.YtnmaeekclpmmnaaDoorRows
import GoSem.ClaimSeven
namespace Go.Proofs.YtnmaeekclpmmnaaDoor
namespace Rows

/-- THE TIED CARD OF 'laws.FnExactParseNet'. -/
def fnExactParseNetCard : Claim7 := { stood := { row := fnExactParseNetRow, standIns := [], harness := (true, "c93817f728a206d1f5f20b6f717d7c29ace4859a37ddb6bf55b6e8134ac81007"), looks := true }, kinds := [], alts := [], laidByText := true, laidKinds := [.data, .data, .data, .data, .sentinel, .sentinel, .pinned], laidTests := true, laidLooks := .later }
def FnExactParseNetCardSaid : Prop := Claim7.holds Tryd.pinned (.plain (OpenSpec.ofChange fnExactParseNetSpec)) fnExactParseNetCard

/-- THE TIED CARD OF 'laws.FnExactParseCut'. -/
def fnExactParseCutCard : Claim7 := { stood := { row := fnExactParseCutRow, standIns := [], harness := (true, "c93817f728a206d1f5f20b6f717d7c29ace4859a37ddb6bf55b6e8134ac81007"), looks := true }, kinds := [], alts := [], laidByText := true, laidKinds := [.data, .data, .data, .data, .sentinel, .sentinel, .pinned], laidTests := true, laidLooks := .later }
def FnExactParseCutCardSaid : Prop := Claim7.holds Tryd.pinned (.plain (OpenSpec.ofChange fnExactParseCutSpec)) fnExactParseCutCard

/-- THE SECOND FORM's CARD OF 'laws.FnExactParseNet'. -/
def fnExactParseNetUptoCard : Claim7 := { stood := { row := fnExactParseNetUptoRow, standIns := [], harness := (true, "c93817f728a206d1f5f20b6f717d7c29ace4859a37ddb6bf55b6e8134ac81007"), looks := true }, kinds := [], alts := [], laidByText := true, laidKinds := [.data, .data, .data, .data, .sentinel, .sentinel, .pinned], laidTests := true, laidLooks := .later }
def FnExactParseNetUptoCardSaid : Prop := Claim7.holds Tryd.pinned (.plain (OpenSpec.upto fnExactParseNetSpec)) fnExactParseNetUptoCard

/-- THE SECOND FORM's CARD OF 'laws.FnExactParseCut'. -/
def fnExactParseCutUptoCard : Claim7 := { stood := { row := fnExactParseCutUptoRow, standIns := [], harness := (true, "c93817f728a206d1f5f20b6f717d7c29ace4859a37ddb6bf55b6e8134ac81007"), looks := true }, kinds := [], alts := [], laidByText := true, laidKinds := [.data, .data, .data, .data, .sentinel, .sentinel, .pinned], laidTests := true, laidLooks := .later }
def FnExactParseCutUptoCardSaid : Prop := Claim7.holds Tryd.pinned (.plain (OpenSpec.upto fnExactParseCutSpec)) fnExactParseCutUptoCard
end Rows
end Go.Proofs.YtnmaeekclpmmnaaDoor
