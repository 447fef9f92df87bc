/-
  DERIVED. GIVEN WITH THE SEED: THE CARDS: each row of YtmmcbdndelaeoaaDoorRows.lean that lists a variable, with what it lists TIED to the program's text (the seventh form; the later family's looks); each row that meets fmt, with fmt's text TOLD by the authors' own Lean function (tested against real Go, not proved from fmt's source: count such statements apart). THE CARD IS WHAT COUNTS. Prove the row's statement (the work); the ties are given (YtmmcbdndelaeoaaDoorTie.lean); close each card by the builder's one call (the guide's Derived/Test/ToyasCard.lean, 'card_holds'). Laid BY PROGRAM, IN A SANDBOX (cutbox-door.mjs). By AI agents, Wed Nov 11 2026. No macro, syntax, notation, axiom, sorry.
-/
import Derived.Test.YtmmcbdndelaeoaaDoorRows
import GoSem.ClaimSeven
namespace Go.Proofs.YtmmcbdndelaeoaaDoor
namespace Rows

/-- THE TIED CARD OF 'laws.FnExactCutText'. -/
def fnExactCutTextCard : Claim7 := { stood := { row := fnExactCutTextRow, standIns := [], harness := (true, "14669f3495236599a6c73706fb32c45dec5532afabbcefd517b891784a262a6c"), looks := true }, kinds := [], alts := [], laidByText := true, laidKinds := [.data, .data, .data], laidTests := true, laidLooks := .later }
def FnExactCutTextCardSaid : Prop := Claim7.holds Tryd.pinned (.plain (OpenSpec.ofChange fnExactCutTextSpec)) fnExactCutTextCard

/-- THE TIED CARD OF 'laws.FnExactNetText'. -/
def fnExactNetTextCard : Claim7 := { stood := { row := fnExactNetTextRow, standIns := [], harness := (true, "14669f3495236599a6c73706fb32c45dec5532afabbcefd517b891784a262a6c"), looks := true }, kinds := [], alts := [], laidByText := true, laidKinds := [.data, .data, .data], laidTests := true, laidLooks := .later }
def FnExactNetTextCardSaid : Prop := Claim7.holds Tryd.pinned (.plain (OpenSpec.ofChange fnExactNetTextSpec)) fnExactNetTextCard

/-- THE TIED CARD OF 'laws.FnExactCodeText'. -/
def fnExactCodeTextCard : Claim7 := { stood := { row := fnExactCodeTextRow, standIns := [], harness := (true, "14669f3495236599a6c73706fb32c45dec5532afabbcefd517b891784a262a6c"), looks := true }, kinds := [], alts := [], laidByText := true, laidKinds := [.data, .data, .data], laidTests := true, laidLooks := .later }
def FnExactCodeTextCardSaid : Prop := Claim7.holds Tryd.pinned (.plain (OpenSpec.ofChange fnExactCodeTextSpec)) fnExactCodeTextCard

/-- THE TIED CARD OF 'laws.FnExactParseCut'. -/
def fnExactParseCutCard : Claim7 := { stood := { row := fnExactParseCutRow, standIns := [], harness := (true, "14669f3495236599a6c73706fb32c45dec5532afabbcefd517b891784a262a6c"), looks := true }, kinds := [], alts := [], laidByText := true, laidKinds := [.data, .data, .data, .data, .sentinel, .sentinel, .pinned], laidTests := true, laidLooks := .later }
def FnExactParseCutCardSaid : Prop := Claim7.holds Tryd.pinned (.plain (OpenSpec.ofChange fnExactParseCutSpec)) fnExactParseCutCard

/-- THE TIED CARD OF 'laws.FnExactParseNet'. -/
def fnExactParseNetCard : Claim7 := { stood := { row := fnExactParseNetRow, standIns := [], harness := (true, "14669f3495236599a6c73706fb32c45dec5532afabbcefd517b891784a262a6c"), looks := true }, kinds := [], alts := [], laidByText := true, laidKinds := [.data, .data, .data, .data, .sentinel, .sentinel, .pinned], laidTests := true, laidLooks := .later }
def FnExactParseNetCardSaid : Prop := Claim7.holds Tryd.pinned (.plain (OpenSpec.ofChange fnExactParseNetSpec)) fnExactParseNetCard

/-- THE SECOND FORM's CARD OF 'laws.FnExactCutText'. -/
def fnExactCutTextUptoCard : Claim7 := { stood := { row := fnExactCutTextUptoRow, standIns := [], harness := (true, "14669f3495236599a6c73706fb32c45dec5532afabbcefd517b891784a262a6c"), looks := true }, kinds := [], alts := [], laidByText := true, laidKinds := [.data, .data, .data], laidTests := true, laidLooks := .later }
def FnExactCutTextUptoCardSaid : Prop := Claim7.holds Tryd.pinned (.plain (OpenSpec.upto fnExactCutTextSpec)) fnExactCutTextUptoCard

/-- THE SECOND FORM's CARD OF 'laws.FnExactNetText'. -/
def fnExactNetTextUptoCard : Claim7 := { stood := { row := fnExactNetTextUptoRow, standIns := [], harness := (true, "14669f3495236599a6c73706fb32c45dec5532afabbcefd517b891784a262a6c"), looks := true }, kinds := [], alts := [], laidByText := true, laidKinds := [.data, .data, .data], laidTests := true, laidLooks := .later }
def FnExactNetTextUptoCardSaid : Prop := Claim7.holds Tryd.pinned (.plain (OpenSpec.upto fnExactNetTextSpec)) fnExactNetTextUptoCard

/-- THE SECOND FORM's CARD OF 'laws.FnExactCodeText'. -/
def fnExactCodeTextUptoCard : Claim7 := { stood := { row := fnExactCodeTextUptoRow, standIns := [], harness := (true, "14669f3495236599a6c73706fb32c45dec5532afabbcefd517b891784a262a6c"), looks := true }, kinds := [], alts := [], laidByText := true, laidKinds := [.data, .data, .data], laidTests := true, laidLooks := .later }
def FnExactCodeTextUptoCardSaid : Prop := Claim7.holds Tryd.pinned (.plain (OpenSpec.upto fnExactCodeTextSpec)) fnExactCodeTextUptoCard

/-- THE SECOND FORM's CARD OF 'laws.FnExactParseCut'. -/
def fnExactParseCutUptoCard : Claim7 := { stood := { row := fnExactParseCutUptoRow, standIns := [], harness := (true, "14669f3495236599a6c73706fb32c45dec5532afabbcefd517b891784a262a6c"), looks := true }, kinds := [], alts := [], laidByText := true, laidKinds := [.data, .data, .data, .data, .sentinel, .sentinel, .pinned], laidTests := true, laidLooks := .later }
def FnExactParseCutUptoCardSaid : Prop := Claim7.holds Tryd.pinned (.plain (OpenSpec.upto fnExactParseCutSpec)) fnExactParseCutUptoCard

/-- THE SECOND FORM's CARD OF 'laws.FnExactParseNet'. -/
def fnExactParseNetUptoCard : Claim7 := { stood := { row := fnExactParseNetUptoRow, standIns := [], harness := (true, "14669f3495236599a6c73706fb32c45dec5532afabbcefd517b891784a262a6c"), looks := true }, kinds := [], alts := [], laidByText := true, laidKinds := [.data, .data, .data, .data, .sentinel, .sentinel, .pinned], laidTests := true, laidLooks := .later }
def FnExactParseNetUptoCardSaid : Prop := Claim7.holds Tryd.pinned (.plain (OpenSpec.upto fnExactParseNetSpec)) fnExactParseNetUptoCard
end Rows
end Go.Proofs.YtmmcbdndelaeoaaDoor
