/-
  DERIVED. GIVEN WITH THE SEED: THE CARDS: each row of YtnmaeekclpmmnaaGreatDoorRows.lean that lists a variable, with what it lists TIED to the program's text (the seventh form; the later family's looks); each row that meets fmt, with fmt's text TOLD by the authors' own Lean function (tested against real Go, not proved from fmt's source: count such statements apart). THE CARD IS WHAT COUNTS. Prove the row's statement (the work); the ties are given (YtnmaeekclpmmnaaGreatDoorTie.lean); close each card by the builder's one call (the guide's Derived/Test/ToyasCard.lean, 'card_holds'). Laid BY PROGRAM, IN A SANDBOX (cutbox-door.mjs). By AI agents, Wed Nov 11 2026. No macro, syntax, notation, axiom, sorry.
-/
import Derived.Test.YtnmaeekclpmmnaaGreatDoorRows
import GoSem.ClaimSeven
namespace Go.Proofs.YtnmaeekclpmmnaaGreatDoor
namespace Rows

/-- THE TIED CARD OF 'laws.FnExactParseCode'. -/
def fnExactParseCodeCard : Claim7 := { stood := { row := fnExactParseCodeRow, standIns := [], harness := (true, "b8ed0bf69adea355974f52c21dab135b409fb0aaa85078a8ae2a6908068c4fa3"), looks := true }, kinds := [], alts := [], laidByText := true, laidKinds := [.data, .data, .data, .data, .sentinel, .sentinel, .pinned], laidTests := true, laidLooks := .later }
def FnExactParseCodeCardSaid : Prop := Claim7.holds Tryz.pinned (.plain (OpenSpec.ofChange fnExactParseCodeSpec)) fnExactParseCodeCard

/-- THE TIED CARD OF 'laws.FnNetsChangeOfAll'. -/
def fnNetsChangeOfAllCard : Claim7 := { stood := { row := fnNetsChangeOfAllRow, standIns := [], harness := (true, "b8ed0bf69adea355974f52c21dab135b409fb0aaa85078a8ae2a6908068c4fa3"), looks := true }, kinds := [], alts := [], laidByText := true, laidKinds := [.data, .data, .data, .data, .sentinel, .sentinel, .pinned], laidTests := true, laidLooks := .later }
def FnNetsChangeOfAllCardSaid : Prop := Claim7.holds Tryz.pinned (.plain (OpenSpec.ofChange fnNetsChangeOfAllSpec)) fnNetsChangeOfAllCard

/-- THE TIED CARD OF 'laws.FnCutsTurnOfAll'. -/
def fnCutsTurnOfAllCard : Claim7 := { stood := { row := fnCutsTurnOfAllRow, standIns := [], harness := (true, "b8ed0bf69adea355974f52c21dab135b409fb0aaa85078a8ae2a6908068c4fa3"), looks := true }, kinds := [], alts := [], laidByText := true, laidKinds := [.data, .data, .data, .data, .sentinel, .sentinel, .pinned], laidTests := true, laidLooks := .later }
def FnCutsTurnOfAllCardSaid : Prop := Claim7.holds Tryz.pinned (.plain (OpenSpec.ofChange fnCutsTurnOfAllSpec)) fnCutsTurnOfAllCard

/-- THE TIED CARD OF 'laws.FnCodesTurnedOfAll'. -/
def fnCodesTurnedOfAllCard : Claim7 := { stood := { row := fnCodesTurnedOfAllRow, standIns := [], harness := (true, "b8ed0bf69adea355974f52c21dab135b409fb0aaa85078a8ae2a6908068c4fa3"), looks := true }, kinds := [], alts := [], laidByText := true, laidKinds := [.data, .data, .data, .data, .sentinel, .sentinel, .pinned], laidTests := true, laidLooks := .later }
def FnCodesTurnedOfAllCardSaid : Prop := Claim7.holds Tryz.pinned (.plain (OpenSpec.ofChange fnCodesTurnedOfAllSpec)) fnCodesTurnedOfAllCard

/-- THE SECOND FORM's CARD OF 'laws.FnExactParseCode'. -/
def fnExactParseCodeUptoCard : Claim7 := { stood := { row := fnExactParseCodeUptoRow, standIns := [], harness := (true, "b8ed0bf69adea355974f52c21dab135b409fb0aaa85078a8ae2a6908068c4fa3"), looks := true }, kinds := [], alts := [], laidByText := true, laidKinds := [.data, .data, .data, .data, .sentinel, .sentinel, .pinned], laidTests := true, laidLooks := .later }
def FnExactParseCodeUptoCardSaid : Prop := Claim7.holds Tryz.pinned (.plain (OpenSpec.upto fnExactParseCodeSpec)) fnExactParseCodeUptoCard

/-- THE SECOND FORM's CARD OF 'laws.FnNetsChangeOfAll'. -/
def fnNetsChangeOfAllUptoCard : Claim7 := { stood := { row := fnNetsChangeOfAllUptoRow, standIns := [], harness := (true, "b8ed0bf69adea355974f52c21dab135b409fb0aaa85078a8ae2a6908068c4fa3"), looks := true }, kinds := [], alts := [], laidByText := true, laidKinds := [.data, .data, .data, .data, .sentinel, .sentinel, .pinned], laidTests := true, laidLooks := .later }
def FnNetsChangeOfAllUptoCardSaid : Prop := Claim7.holds Tryz.pinned (.plain (OpenSpec.upto fnNetsChangeOfAllSpec)) fnNetsChangeOfAllUptoCard

/-- THE SECOND FORM's CARD OF 'laws.FnCutsTurnOfAll'. -/
def fnCutsTurnOfAllUptoCard : Claim7 := { stood := { row := fnCutsTurnOfAllUptoRow, standIns := [], harness := (true, "b8ed0bf69adea355974f52c21dab135b409fb0aaa85078a8ae2a6908068c4fa3"), looks := true }, kinds := [], alts := [], laidByText := true, laidKinds := [.data, .data, .data, .data, .sentinel, .sentinel, .pinned], laidTests := true, laidLooks := .later }
def FnCutsTurnOfAllUptoCardSaid : Prop := Claim7.holds Tryz.pinned (.plain (OpenSpec.upto fnCutsTurnOfAllSpec)) fnCutsTurnOfAllUptoCard

/-- THE SECOND FORM's CARD OF 'laws.FnCodesTurnedOfAll'. -/
def fnCodesTurnedOfAllUptoCard : Claim7 := { stood := { row := fnCodesTurnedOfAllUptoRow, standIns := [], harness := (true, "b8ed0bf69adea355974f52c21dab135b409fb0aaa85078a8ae2a6908068c4fa3"), looks := true }, kinds := [], alts := [], laidByText := true, laidKinds := [.data, .data, .data, .data, .sentinel, .sentinel, .pinned], laidTests := true, laidLooks := .later }
def FnCodesTurnedOfAllUptoCardSaid : Prop := Claim7.holds Tryz.pinned (.plain (OpenSpec.upto fnCodesTurnedOfAllSpec)) fnCodesTurnedOfAllUptoCard
end Rows
end Go.Proofs.YtnmaeekclpmmnaaGreatDoor
