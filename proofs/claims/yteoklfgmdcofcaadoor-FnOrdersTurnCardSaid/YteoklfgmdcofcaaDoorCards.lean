/-
  DERIVED. GIVEN WITH THE SEED: THE CARDS: each row of YteoklfgmdcofcaaDoorRows.lean that lists a variable, with what it lists TIED to the program's text (the seventh form; the later family's looks); each row that meets fmt, with fmt's text TOLD by the authors' own Lean function (tested against real Go, not proved from fmt's source: count such statements apart). THE CARD IS WHAT COUNTS. Prove the row's statement (the work); the ties are given (YteoklfgmdcofcaaDoorTie.lean); close each card by the builder's one call (the guide's Derived/Test/ToyasCard.lean, 'card_holds'). Laid BY PROGRAM, IN A SANDBOX (cutbox-door.mjs). By AI agents, Wed Nov 11 2026. No macro, syntax, notation, axiom, sorry.
-/
import Derived.Test.YteoklfgmdcofcaaDoorRows
import GoSem.ClaimSeven
namespace Go.Proofs.YteoklfgmdcofcaaDoor
namespace Rows

/-- THE TIED CARD OF 'laws.FnOrdersTurn'. -/
def fnOrdersTurnCard : Claim7 := { stood := { row := fnOrdersTurnRow, standIns := [], harness := (true, "415d005b4912737f26b63cbb1ed8ef187629e2ccd93e13fe31a7ae33ebf8c3cc"), looks := false }, kinds := [], alts := [], laidByText := true, laidKinds := [.data, .pinned], laidTests := true, laidLooks := .later }
def FnOrdersTurnCardSaid : Prop := Claim7.holds Tryd.pinned (.plain (OpenSpec.ofChange fnOrdersTurnSpec)) fnOrdersTurnCard

/-- THE SECOND FORM's CARD OF 'laws.FnOrdersTurn'. -/
def fnOrdersTurnUptoCard : Claim7 := { stood := { row := fnOrdersTurnUptoRow, standIns := [], harness := (true, "415d005b4912737f26b63cbb1ed8ef187629e2ccd93e13fe31a7ae33ebf8c3cc"), looks := false }, kinds := [], alts := [], laidByText := true, laidKinds := [.data, .pinned], laidTests := true, laidLooks := .later }
def FnOrdersTurnUptoCardSaid : Prop := Claim7.holds Tryd.pinned (.plain (OpenSpec.upto fnOrdersTurnSpec)) fnOrdersTurnUptoCard
end Rows
end Go.Proofs.YteoklfgmdcofcaaDoor
