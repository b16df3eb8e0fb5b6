/-
  DERIVED. GIVEN WITH THE SEED: THE CARDS: each row of YtmhbcfdodcnjmaaGreatDoorRows.lean that lists a variable, with what it lists TIED to the program's text (the seventh form; the later family's looks); each row that meets fmt, with fmt's text TOLD by the authors' own Lean function (tested against real Go, not proved from fmt's source: count such statements apart). THE CARD IS WHAT COUNTS. Prove the row's statement (the work); the ties are given (YtmhbcfdodcnjmaaGreatDoorTie.lean); close each card by the builder's one call (the guide's Derived/Test/ToyasCard.lean, 'card_holds'). Laid BY PROGRAM, IN A SANDBOX (cutbox-door.mjs). By AI agents, Wed Nov 11 2026. No macro, syntax, notation, axiom, sorry.
-/
import Derived.Test.YtmhbcfdodcnjmaaGreatDoorRows
import GoSem.ClaimSeven
namespace Go.Proofs.YtmhbcfdodcnjmaaGreatDoor
namespace Rows

/-- THE TIED CARD OF 'laws.FnSignalsReach'. -/
def fnSignalsReachCard : Claim7 := { stood := { row := fnSignalsReachRow, standIns := [], harness := (true, "18980a9cf6925c08809df0b540671ae9de357afef514e7879d3527767ca012fe"), looks := true }, kinds := [], alts := [], laidByText := true, laidKinds := [.data, .data, .data, .sentinel, .sentinel], laidTests := true, laidLooks := .later }
def FnSignalsReachCardSaid : Prop := Claim7.holds Tryz.pinned (.plain (OpenSpec.ofChange fnSignalsReachSpec)) fnSignalsReachCard

/-- THE SECOND FORM's CARD OF 'laws.FnSignalsReach'. -/
def fnSignalsReachUptoCard : Claim7 := { stood := { row := fnSignalsReachUptoRow, standIns := [], harness := (true, "18980a9cf6925c08809df0b540671ae9de357afef514e7879d3527767ca012fe"), looks := true }, kinds := [], alts := [], laidByText := true, laidKinds := [.data, .data, .data, .sentinel, .sentinel], laidTests := true, laidLooks := .later }
def FnSignalsReachUptoCardSaid : Prop := Claim7.holds Tryz.pinned (.plain (OpenSpec.upto fnSignalsReachSpec)) fnSignalsReachUptoCard
end Rows
end Go.Proofs.YtmhbcfdodcnjmaaGreatDoor
