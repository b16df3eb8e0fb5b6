/-
  DERIVED. GIVEN WITH THE SEED: THE CARDS: each row of YtilaakmggfjcbaaDoorRows.lean that lists a variable, with what it lists TIED to the program's text (the seventh form; the later family's looks); each row that meets fmt, with fmt's text TOLD by the authors' own Lean function (tested against real Go, not proved from fmt's source: count such statements apart). THE CARD IS WHAT COUNTS. Prove the row's statement (the work); the ties are given (YtilaakmggfjcbaaDoorTie.lean); close each card by the builder's one call (the guide's Derived/Test/ToyasCard.lean, 'card_holds'). Laid BY PROGRAM, IN A SANDBOX (cutbox-door.mjs). By AI agents, Wed Nov 11 2026. No macro, syntax, notation, axiom, sorry.
-/
import Derived.Test.YtilaakmggfjcbaaDoorRows
import GoSem.ClaimSeven
namespace Go.Proofs.YtilaakmggfjcbaaDoor
namespace Rows

/-- THE TIED CARD OF 'laws.FnExactParseSignal'. -/
def fnExactParseSignalCard : Claim7 := { stood := { row := fnExactParseSignalRow, standIns := [], harness := (true, "6e047404f8c9965aabcb8e3054a4986fbffc919dca7efbdcf6b79be854e0fca0"), looks := true }, kinds := [], alts := [], laidByText := true, laidKinds := [.data, .data, .data, .sentinel, .sentinel], laidTests := true, laidLooks := .later }
def FnExactParseSignalCardSaid : Prop := Claim7.holds Tryd.pinned (.plain (OpenSpec.ofChange fnExactParseSignalSpec)) fnExactParseSignalCard

/-- THE SECOND FORM's CARD OF 'laws.FnExactParseSignal'. -/
def fnExactParseSignalUptoCard : Claim7 := { stood := { row := fnExactParseSignalUptoRow, standIns := [], harness := (true, "6e047404f8c9965aabcb8e3054a4986fbffc919dca7efbdcf6b79be854e0fca0"), looks := true }, kinds := [], alts := [], laidByText := true, laidKinds := [.data, .data, .data, .sentinel, .sentinel], laidTests := true, laidLooks := .later }
def FnExactParseSignalUptoCardSaid : Prop := Claim7.holds Tryd.pinned (.plain (OpenSpec.upto fnExactParseSignalSpec)) fnExactParseSignalUptoCard
end Rows
end Go.Proofs.YtilaakmggfjcbaaDoor
