/-
  DERIVED. GIVEN WITH THE SEED: THE CARDS: each row of YtonhhfhlhlifcaaGreatDoorRows.lean that lists a variable, with what it lists TIED to the program's text (the seventh form; the later family's looks); each row that meets fmt, with fmt's text TOLD by the authors' own Lean function (tested against real Go, not proved from fmt's source: count such statements apart). THE CARD IS WHAT COUNTS. Prove the row's statement (the work); the ties are given (YtonhhfhlhlifcaaGreatDoorTie.lean); close each card by the builder's one call (the guide's Derived/Test/ToyasCard.lean, 'card_holds'). Laid BY PROGRAM, IN A SANDBOX (cutbox-door.mjs). By AI agents, Wed Nov 11 2026. No macro, syntax, notation, axiom, sorry.
-/
import Derived.Test.YtonhhfhlhlifcaaGreatDoorRows
import GoSem.ClaimSeven
namespace Go.Proofs.YtonhhfhlhlifcaaGreatDoor
namespace Rows

/-- THE TIED CARD OF 'laws.FnRowsHiddenOfAll'. -/
def fnRowsHiddenOfAllCard : Claim7 := { stood := { row := fnRowsHiddenOfAllRow, standIns := [], harness := (true, "0691610b6b5227d141ead9b2719739376c368ad8080ab450361825fc8a402101"), looks := false }, kinds := [], alts := [], laidByText := true, laidKinds := [.data, .pinned], laidTests := true, laidLooks := .later }
def FnRowsHiddenOfAllCardSaid : Prop := Claim7.holds Tryz.pinned (.plain (OpenSpec.ofChange fnRowsHiddenOfAllSpec)) fnRowsHiddenOfAllCard

/-- THE SECOND FORM's CARD OF 'laws.FnRowsHiddenOfAll'. -/
def fnRowsHiddenOfAllUptoCard : Claim7 := { stood := { row := fnRowsHiddenOfAllUptoRow, standIns := [], harness := (true, "0691610b6b5227d141ead9b2719739376c368ad8080ab450361825fc8a402101"), looks := false }, kinds := [], alts := [], laidByText := true, laidKinds := [.data, .pinned], laidTests := true, laidLooks := .later }
def FnRowsHiddenOfAllUptoCardSaid : Prop := Claim7.holds Tryz.pinned (.plain (OpenSpec.upto fnRowsHiddenOfAllSpec)) fnRowsHiddenOfAllUptoCard
end Rows
end Go.Proofs.YtonhhfhlhlifcaaGreatDoor
