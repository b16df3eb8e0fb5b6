/-
  DERIVED. GIVEN WITH THE SEED: THE CARDS: each row of YtgfoookdmcffpaaDoorRows.lean that lists a variable, with what it lists TIED to the program's text (the seventh form; the later family's looks); each row that meets fmt, with fmt's text TOLD by the authors' own Lean function (tested against real Go, not proved from fmt's source: count such statements apart). THE CARD IS WHAT COUNTS. Prove the row's statement (the work); the ties are given (YtgfoookdmcffpaaDoorTie.lean); close each card by the builder's one call (the guide's Derived/Test/ToyasCard.lean, 'card_holds'). Laid BY PROGRAM, IN A SANDBOX (cutbox-door.mjs). By AI agents, Wed Nov 11 2026. No macro, syntax, notation, axiom, sorry.
-/
import Derived.Test.YtgfoookdmcffpaaDoorRows
import GoSem.ClaimSeven
namespace Go.Proofs.YtgfoookdmcffpaaDoor
namespace Rows

/-- THE TIED CARD OF 'laws.FnRowsBefore'. -/
def fnRowsBeforeCard : Claim7 := { stood := { row := fnRowsBeforeRow, standIns := [], harness := (true, "f06405372b387ec8f25be8896c581bd5ca0b5af8830d0e550d8099e880ccf420"), looks := false }, kinds := [], alts := [], laidByText := true, laidKinds := [.data, .pinned], laidTests := true, laidLooks := .later }
def FnRowsBeforeCardSaid : Prop := Claim7.holds Tryd.pinned (.plain (OpenSpec.ofChange fnRowsBeforeSpec)) fnRowsBeforeCard

/-- THE SECOND FORM's CARD OF 'laws.FnRowsBefore'. -/
def fnRowsBeforeUptoCard : Claim7 := { stood := { row := fnRowsBeforeUptoRow, standIns := [], harness := (true, "f06405372b387ec8f25be8896c581bd5ca0b5af8830d0e550d8099e880ccf420"), looks := false }, kinds := [], alts := [], laidByText := true, laidKinds := [.data, .pinned], laidTests := true, laidLooks := .later }
def FnRowsBeforeUptoCardSaid : Prop := Claim7.holds Tryd.pinned (.plain (OpenSpec.upto fnRowsBeforeSpec)) fnRowsBeforeUptoCard
end Rows
end Go.Proofs.YtgfoookdmcffpaaDoor
