/-
  DERIVED. GIVEN WITH THE SEED: THE CARDS: each row of YtgeahghdikdamaaGreatDoorRows.lean that lists a variable, with what it lists TIED to the program's text (the seventh form; the later family's looks); each row that meets fmt, with fmt's text TOLD by the authors' own Lean function (tested against real Go, not proved from fmt's source: count such statements apart). THE CARD IS WHAT COUNTS. Prove the row's statement (the work); the ties are given (YtgeahghdikdamaaGreatDoorTie.lean); close each card by the builder's one call (the guide's Derived/Test/ToyasCard.lean, 'card_holds'). Laid BY PROGRAM, IN A SANDBOX (cutbox-door.mjs). By AI agents, Wed Nov 11 2026. No macro, syntax, notation, axiom, sorry.
-/
import Derived.Test.YtgeahghdikdamaaGreatDoorRows
import GoSem.ClaimSeven
namespace Go.Proofs.YtgeahghdikdamaaGreatDoor
namespace Rows

/-- THE TIED CARD OF 'laws.FnCodesTurnedOfAll'. -/
def fnCodesTurnedOfAllCard : Claim7 := { stood := { row := fnCodesTurnedOfAllRow, standIns := [], harness := (true, "333bea8e85980bdebc1f391b29ff97029e761c673c97460e2b1a398ba6d931be"), looks := true }, kinds := [], alts := [], laidByText := true, laidKinds := [.data, .data, .data, .data, .sentinel, .sentinel, .pinned], laidTests := true, laidLooks := .later }
def FnCodesTurnedOfAllCardSaid : Prop := Claim7.holds Tryz.pinned (.plain (OpenSpec.ofChange fnCodesTurnedOfAllSpec)) fnCodesTurnedOfAllCard

/-- THE SECOND FORM's CARD OF 'laws.FnCodesTurnedOfAll'. -/
def fnCodesTurnedOfAllUptoCard : Claim7 := { stood := { row := fnCodesTurnedOfAllUptoRow, standIns := [], harness := (true, "333bea8e85980bdebc1f391b29ff97029e761c673c97460e2b1a398ba6d931be"), looks := true }, kinds := [], alts := [], laidByText := true, laidKinds := [.data, .data, .data, .data, .sentinel, .sentinel, .pinned], laidTests := true, laidLooks := .later }
def FnCodesTurnedOfAllUptoCardSaid : Prop := Claim7.holds Tryz.pinned (.plain (OpenSpec.upto fnCodesTurnedOfAllSpec)) fnCodesTurnedOfAllUptoCard
end Rows
end Go.Proofs.YtgeahghdikdamaaGreatDoor
