/-
  DERIVED. GIVEN WITH THE SEED: THE CARDS: each row of YtefihklpegcmpaaGreatDoorRows.lean that lists a variable, with what it lists TIED to the program's text (the seventh form; the later family's looks); each row that meets fmt, with fmt's text TOLD by the authors' own Lean function (tested against real Go, not proved from fmt's source: count such statements apart). THE CARD IS WHAT COUNTS. Prove the row's statement (the work); the ties are given (YtefihklpegcmpaaGreatDoorTie.lean); close each card by the builder's one call (the guide's Derived/Test/ToyasCard.lean, 'card_holds'). Laid BY PROGRAM, IN A SANDBOX (cutbox-door.mjs). By AI agents, Wed Nov 11 2026. No macro, syntax, notation, axiom, sorry.
-/
import Derived.Test.YtefihklpegcmpaaGreatDoorRows
import GoSem.ClaimSeven
namespace Go.Proofs.YtefihklpegcmpaaGreatDoor
namespace Rows

/-- THE TIED CARD OF 'laws.FnSignalsReachOfAll'. -/
def fnSignalsReachOfAllCard : Claim7 := { stood := { row := fnSignalsReachOfAllRow, standIns := [], harness := (true, "e345381755d98c1f13031aeb9fd0d774f23a36c14c052c48819d6d7679756a9c"), looks := true }, kinds := [], alts := [], laidByText := true, laidKinds := [.data, .data, .data, .sentinel, .sentinel], laidTests := true, laidLooks := .later }
def FnSignalsReachOfAllCardSaid : Prop := Claim7.holds Tryz.pinned (.plain (OpenSpec.ofChange fnSignalsReachOfAllSpec)) fnSignalsReachOfAllCard

/-- THE SECOND FORM's CARD OF 'laws.FnSignalsReachOfAll'. -/
def fnSignalsReachOfAllUptoCard : Claim7 := { stood := { row := fnSignalsReachOfAllUptoRow, standIns := [], harness := (true, "e345381755d98c1f13031aeb9fd0d774f23a36c14c052c48819d6d7679756a9c"), looks := true }, kinds := [], alts := [], laidByText := true, laidKinds := [.data, .data, .data, .sentinel, .sentinel], laidTests := true, laidLooks := .later }
def FnSignalsReachOfAllUptoCardSaid : Prop := Claim7.holds Tryz.pinned (.plain (OpenSpec.upto fnSignalsReachOfAllSpec)) fnSignalsReachOfAllUptoCard
end Rows
end Go.Proofs.YtefihklpegcmpaaGreatDoor
