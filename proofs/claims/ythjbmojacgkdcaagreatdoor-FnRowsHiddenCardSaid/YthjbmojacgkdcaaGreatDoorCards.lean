/-
  DERIVED. GIVEN WITH THE SEED: THE CARDS: each row of YthjbmojacgkdcaaGreatDoorRows.lean that lists a variable, with what it lists TIED to the program's text (the seventh form; the later family's looks); each row that meets fmt, with fmt's text TOLD by the authors' own Lean function (tested against real Go, not proved from fmt's source: count such statements apart). THE CARD IS WHAT COUNTS. Prove the row's statement (the work); the ties are given (YthjbmojacgkdcaaGreatDoorTie.lean); close each card by the builder's one call (the guide's Derived/Test/ToyasCard.lean, 'card_holds'). Laid BY PROGRAM, IN A SANDBOX (cutbox-door.mjs). By AI agents, Wed Nov 11 2026. No macro, syntax, notation, axiom, sorry.
-/
import Derived.Test.YthjbmojacgkdcaaGreatDoorRows
import GoSem.ClaimSeven
namespace Go.Proofs.YthjbmojacgkdcaaGreatDoor
namespace Rows

/-- THE TIED CARD OF 'laws.FnRowsHidden'. -/
def fnRowsHiddenCard : Claim7 := { stood := { row := fnRowsHiddenRow, standIns := [], harness := (true, "39d96893c919faca423ebd36e6acc59f92a55a3aff53c19a50cd0699fb1311fc"), looks := false }, kinds := [], alts := [], laidByText := true, laidKinds := [.data, .pinned], laidTests := true, laidLooks := .later }
def FnRowsHiddenCardSaid : Prop := Claim7.holds Tryz.pinned (.plain (OpenSpec.ofChange fnRowsHiddenSpec)) fnRowsHiddenCard

/-- THE SECOND FORM's CARD OF 'laws.FnRowsHidden'. -/
def fnRowsHiddenUptoCard : Claim7 := { stood := { row := fnRowsHiddenUptoRow, standIns := [], harness := (true, "39d96893c919faca423ebd36e6acc59f92a55a3aff53c19a50cd0699fb1311fc"), looks := false }, kinds := [], alts := [], laidByText := true, laidKinds := [.data, .pinned], laidTests := true, laidLooks := .later }
def FnRowsHiddenUptoCardSaid : Prop := Claim7.holds Tryz.pinned (.plain (OpenSpec.upto fnRowsHiddenSpec)) fnRowsHiddenUptoCard
end Rows
end Go.Proofs.YthjbmojacgkdcaaGreatDoor
