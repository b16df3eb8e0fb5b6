/-
  DERIVED. GIVEN WITH THE SEED: THE CARDS: each row of YtolalphffodkdaaGreatDoorRows.lean that lists a variable, with what it lists TIED to the program's text (the seventh form; the later family's looks); each row that meets fmt, with fmt's text TOLD by the authors' own Lean function (tested against real Go, not proved from fmt's source: count such statements apart). THE CARD IS WHAT COUNTS. Prove the row's statement (the work); the ties are given (YtolalphffodkdaaGreatDoorTie.lean); close each card by the builder's one call (the guide's Derived/Test/ToyasCard.lean, 'card_holds'). Laid BY PROGRAM, IN A SANDBOX (cutbox-door.mjs). By AI agents, Wed Nov 11 2026. No macro, syntax, notation, axiom, sorry.
-/
import Derived.Test.YtolalphffodkdaaGreatDoorRows
import GoSem.ClaimSeven
namespace Go.Proofs.YtolalphffodkdaaGreatDoor
namespace Rows

/-- THE TIED CARD OF 'laws.FnRowsRest'. -/
def fnRowsRestCard : Claim7 := { stood := { row := fnRowsRestRow, standIns := [], harness := (true, "ed36a5831c7b1e4d8a464b967d05d69996556da61d3e503db747b45d0f8a4adc"), looks := false }, kinds := [], alts := [], laidByText := true, laidKinds := [.data, .pinned], laidTests := true, laidLooks := .later }
def FnRowsRestCardSaid : Prop := Claim7.holds Tryz.pinned (.plain (OpenSpec.ofChange fnRowsRestSpec)) fnRowsRestCard

/-- THE SECOND FORM's CARD OF 'laws.FnRowsRest'. -/
def fnRowsRestUptoCard : Claim7 := { stood := { row := fnRowsRestUptoRow, standIns := [], harness := (true, "ed36a5831c7b1e4d8a464b967d05d69996556da61d3e503db747b45d0f8a4adc"), looks := false }, kinds := [], alts := [], laidByText := true, laidKinds := [.data, .pinned], laidTests := true, laidLooks := .later }
def FnRowsRestUptoCardSaid : Prop := Claim7.holds Tryz.pinned (.plain (OpenSpec.upto fnRowsRestSpec)) fnRowsRestUptoCard
end Rows
end Go.Proofs.YtolalphffodkdaaGreatDoor
