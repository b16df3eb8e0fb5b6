/-
  DERIVED. GIVEN WITH THE SEED: THE CARDS: each row of YtnkklkpbchffkaaGreatDoorRows.lean that lists a variable, with what it lists TIED to the program's text (the seventh form; the later family's looks); each row that meets fmt, with fmt's text TOLD by the authors' own Lean function (tested against real Go, not proved from fmt's source: count such statements apart). THE CARD IS WHAT COUNTS. Prove the row's statement (the work); the ties are given (YtnkklkpbchffkaaGreatDoorTie.lean); close each card by the builder's one call (the guide's Derived/Test/ToyasCard.lean, 'card_holds'). Laid BY PROGRAM, IN A SANDBOX (cutbox-door.mjs). By AI agents, Wed Nov 11 2026. No macro, syntax, notation, axiom, sorry.
-/
import Derived.Test.YtnkklkpbchffkaaGreatDoorRows
import GoSem.ClaimSeven
namespace Go.Proofs.YtnkklkpbchffkaaGreatDoor
namespace Rows

/-- THE TIED CARD OF 'laws.FnOrdersReach'. -/
def fnOrdersReachCard : Claim7 := { stood := { row := fnOrdersReachRow, standIns := [], harness := (true, "fcbd041aa73da11c40779cf07bb523a04f64753e34d13a75320db9f5122579be"), looks := false }, kinds := [], alts := [], laidByText := true, laidKinds := [.data, .pinned], laidTests := true, laidLooks := .later }
def FnOrdersReachCardSaid : Prop := Claim7.holds Tryz.pinned (.plain (OpenSpec.ofChange fnOrdersReachSpec)) fnOrdersReachCard

/-- THE SECOND FORM's CARD OF 'laws.FnOrdersReach'. -/
def fnOrdersReachUptoCard : Claim7 := { stood := { row := fnOrdersReachUptoRow, standIns := [], harness := (true, "fcbd041aa73da11c40779cf07bb523a04f64753e34d13a75320db9f5122579be"), looks := false }, kinds := [], alts := [], laidByText := true, laidKinds := [.data, .pinned], laidTests := true, laidLooks := .later }
def FnOrdersReachUptoCardSaid : Prop := Claim7.holds Tryz.pinned (.plain (OpenSpec.upto fnOrdersReachSpec)) fnOrdersReachUptoCard
end Rows
end Go.Proofs.YtnkklkpbchffkaaGreatDoor
