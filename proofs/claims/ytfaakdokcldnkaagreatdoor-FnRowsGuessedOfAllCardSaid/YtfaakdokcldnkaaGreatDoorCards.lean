/-
  DERIVED. GIVEN WITH THE SEED: THE CARDS: each row of YtfaakdokcldnkaaGreatDoorRows.lean that lists a variable, with what it lists TIED to the program's text (the seventh form; the later family's looks); each row that meets fmt, with fmt's text TOLD by the authors' own Lean function (tested against real Go, not proved from fmt's source: count such statements apart). THE CARD IS WHAT COUNTS. Prove the row's statement (the work); the ties are given (YtfaakdokcldnkaaGreatDoorTie.lean); close each card by the builder's one call (the guide's Derived/Test/ToyasCard.lean, 'card_holds'). Laid BY PROGRAM, IN A SANDBOX (cutbox-door.mjs). By AI agents, Wed Nov 11 2026. No macro, syntax, notation, axiom, sorry.
-/
import Derived.Test.YtfaakdokcldnkaaGreatDoorRows
import GoSem.ClaimSeven
namespace Go.Proofs.YtfaakdokcldnkaaGreatDoor
namespace Rows

/-- THE TIED CARD OF 'laws.FnRowsGuessedOfAll'. -/
def fnRowsGuessedOfAllCard : Claim7 := { stood := { row := fnRowsGuessedOfAllRow, standIns := [], harness := (true, "78bc913a4fb524b46c48ad6c72e4ae0d3a220e9232804ec355e598a2c23fb7f9"), looks := true }, kinds := [], alts := [], laidByText := true, laidKinds := [.data, .data, .data, .data, .sentinel, .sentinel, .pinned], laidTests := true, laidLooks := .later }
def FnRowsGuessedOfAllCardSaid : Prop := Claim7.holds Tryz.pinned (.plain (OpenSpec.ofChange fnRowsGuessedOfAllSpec)) fnRowsGuessedOfAllCard

/-- THE SECOND FORM's CARD OF 'laws.FnRowsGuessedOfAll'. -/
def fnRowsGuessedOfAllUptoCard : Claim7 := { stood := { row := fnRowsGuessedOfAllUptoRow, standIns := [], harness := (true, "78bc913a4fb524b46c48ad6c72e4ae0d3a220e9232804ec355e598a2c23fb7f9"), looks := true }, kinds := [], alts := [], laidByText := true, laidKinds := [.data, .data, .data, .data, .sentinel, .sentinel, .pinned], laidTests := true, laidLooks := .later }
def FnRowsGuessedOfAllUptoCardSaid : Prop := Claim7.holds Tryz.pinned (.plain (OpenSpec.upto fnRowsGuessedOfAllSpec)) fnRowsGuessedOfAllUptoCard
end Rows
end Go.Proofs.YtfaakdokcldnkaaGreatDoor
