/-
  No cell of these rows narrows 'for every input' (looked for: loops, veiled, ifaces, maps, wideKeys, modest, calm, conditions, laid).
  DERIVED. THE GIVEN ROWS OF THIS SEAT. 6 by the template 'for every input the law returns true; each argument reads behind the call as it read before'; 0 by the template 'total and deterministic' (their statements: YtocnicmnckilkaaTotals.lean).
  GIVEN WITH THE SEED: the statements are not yours to turn. If you find one false, say at which input.
  Laid BY PROGRAM, IN A SANDBOX (cutbox-rows.mjs): the forced cells as the released guide's own fill.sh prints them over the translation 4e7db163806ce64d… (all of the seat's roots in one cut). By AI agents, Wed Nov 11 2026. No macro, syntax, notation, axiom, sorry.
-/
import Derived.Test.YtocnicmnckilkaaChecked
import GoSem.Claim
import GoSem.ClaimJoined
import GoSem.ClaimMapViews
import Derived.JoinedTies
import Derived.KernelRfl
namespace Go.Proofs.Ytocnicmnckilkaa
/- THE CELL 'sum', in the pinned program and in every row, IS THE sha256 OF THE DUMP (.gsa) THAT YtocnicmnckilkaaProg.lean LOADS. Nothing in Lean hashes anything: it is a label: what it is worth is what the hold of that sum in a sandbox is worth. -/
noncomputable def Try.pinned : Pinned := { name := "ytocnicmnckilkaa", sum := "4e7db163806ce64d76e1419f658d8fda40b06a1cea188d14a39c822c8c91ef82", checked := Try.checked }
namespace Rows
def none {H : Type} : Left H := { results := [], args := [] }

/-- 'laws.FnExactFirstDesk': WHATEVER THE INPUT: true; the input reads as it did. -/
def fnExactFirstDeskSpec : ChangeSpec := { name := "fnExactFirstDesk", fn := fun _ => fun
  | [] => { results := [.lit (.bool true)], args := [] }
  | _ => none }
def fnExactFirstDeskRow : OpenClaim := { program := "ytocnicmnckilkaa", sum := "4e7db163806ce64d76e1419f658d8fda40b06a1cea188d14a39c822c8c91ef82", func := "loop.example/g01332/laws.FnExactFirstDesk", spec := "fnExactFirstDesk", apart := false }
def FnExactFirstDeskSaid : Prop := fnExactFirstDeskRow.holds Try.pinned (OpenSpec.ofChange fnExactFirstDeskSpec)

/-- ITS FALSE NEIGHBOUR: 'it returns false'. Refute it at one input. -/
def fnExactFirstDeskWrong : ChangeSpec := { name := "fnExactFirstDesk", fn := fun _ => fun
  | [] => { results := [.lit (.bool false)], args := [] }
  | _ => none }
def FnExactFirstDeskWrongFalsely : Prop := fnExactFirstDeskRow.holds Try.pinned (OpenSpec.ofChange fnExactFirstDeskWrong)

/-- 'laws.FnExactIsClue': WHATEVER THE INPUT: true; the input reads as it did. -/
def fnExactIsClueSpec : ChangeSpec := { name := "fnExactIsClue", fn := fun _ => fun
  | [d1, d2] => { results := [.lit (.bool true)], args := [d1, d2] }
  | _ => none }
def fnExactIsClueRow : OpenClaim := { program := "ytocnicmnckilkaa", sum := "4e7db163806ce64d76e1419f658d8fda40b06a1cea188d14a39c822c8c91ef82", func := "loop.example/g01332/laws.FnExactIsClue", spec := "fnExactIsClue", apart := false }
def FnExactIsClueSaid : Prop := fnExactIsClueRow.holds Try.pinned (OpenSpec.ofChange fnExactIsClueSpec)

/-- ITS FALSE NEIGHBOUR: 'it returns false'. Refute it at one input. -/
def fnExactIsClueWrong : ChangeSpec := { name := "fnExactIsClue", fn := fun _ => fun
  | [d1, d2] => { results := [.lit (.bool false)], args := [d1, d2] }
  | _ => none }
def FnExactIsClueWrongFalsely : Prop := fnExactIsClueRow.holds Try.pinned (OpenSpec.ofChange fnExactIsClueWrong)

/-- 'laws.FnExactAreSignals': WHATEVER THE INPUT: true; the input reads as it did. -/
def fnExactAreSignalsSpec : ChangeSpec := { name := "fnExactAreSignals", fn := fun _ => fun
  | [d1, d2] => { results := [.lit (.bool true)], args := [d1, d2] }
  | _ => none }
def fnExactAreSignalsRow : OpenClaim := { program := "ytocnicmnckilkaa", sum := "4e7db163806ce64d76e1419f658d8fda40b06a1cea188d14a39c822c8c91ef82", func := "loop.example/g01332/laws.FnExactAreSignals", spec := "fnExactAreSignals", unfollowed := true, recurses := true, apart := false }
def FnExactAreSignalsSaid : Prop := fnExactAreSignalsRow.holds Try.pinned (OpenSpec.ofChange fnExactAreSignalsSpec)

/-- ITS FALSE NEIGHBOUR: 'it returns false'. Refute it at one input. -/
def fnExactAreSignalsWrong : ChangeSpec := { name := "fnExactAreSignals", fn := fun _ => fun
  | [d1, d2] => { results := [.lit (.bool false)], args := [d1, d2] }
  | _ => none }
def FnExactAreSignalsWrongFalsely : Prop := fnExactAreSignalsRow.holds Try.pinned (OpenSpec.ofChange fnExactAreSignalsWrong)

/-- 'laws.FnExactCountMeetings': WHATEVER THE INPUT: true; the input reads as it did. -/
def fnExactCountMeetingsSpec : ChangeSpec := { name := "fnExactCountMeetings", fn := fun _ => fun
  | [d1, d2, d3, d4] => { results := [.lit (.bool true)], args := [d1, d2, d3, d4] }
  | _ => none }
def fnExactCountMeetingsRow : OpenClaim := { program := "ytocnicmnckilkaa", sum := "4e7db163806ce64d76e1419f658d8fda40b06a1cea188d14a39c822c8c91ef82", func := "loop.example/g01332/laws.FnExactCountMeetings", spec := "fnExactCountMeetings", apart := false }
def FnExactCountMeetingsSaid : Prop := fnExactCountMeetingsRow.holds Try.pinned (OpenSpec.ofChange fnExactCountMeetingsSpec)

/-- ITS FALSE NEIGHBOUR: 'it returns false'. Refute it at one input. -/
def fnExactCountMeetingsWrong : ChangeSpec := { name := "fnExactCountMeetings", fn := fun _ => fun
  | [d1, d2, d3, d4] => { results := [.lit (.bool false)], args := [d1, d2, d3, d4] }
  | _ => none }
def FnExactCountMeetingsWrongFalsely : Prop := fnExactCountMeetingsRow.holds Try.pinned (OpenSpec.ofChange fnExactCountMeetingsWrong)

/-- 'laws.FnExactFirstMeeting': WHATEVER THE INPUT: true; the input reads as it did. -/
def fnExactFirstMeetingSpec : ChangeSpec := { name := "fnExactFirstMeeting", fn := fun _ => fun
  | [d1, d2, d3] => { results := [.lit (.bool true)], args := [d1, d2, d3] }
  | _ => none }
def fnExactFirstMeetingRow : OpenClaim := { program := "ytocnicmnckilkaa", sum := "4e7db163806ce64d76e1419f658d8fda40b06a1cea188d14a39c822c8c91ef82", func := "loop.example/g01332/laws.FnExactFirstMeeting", spec := "fnExactFirstMeeting", apart := false }
def FnExactFirstMeetingSaid : Prop := fnExactFirstMeetingRow.holds Try.pinned (OpenSpec.ofChange fnExactFirstMeetingSpec)

/-- ITS FALSE NEIGHBOUR: 'it returns false'. Refute it at one input. -/
def fnExactFirstMeetingWrong : ChangeSpec := { name := "fnExactFirstMeeting", fn := fun _ => fun
  | [d1, d2, d3] => { results := [.lit (.bool false)], args := [d1, d2, d3] }
  | _ => none }
def FnExactFirstMeetingWrongFalsely : Prop := fnExactFirstMeetingRow.holds Try.pinned (OpenSpec.ofChange fnExactFirstMeetingWrong)

/-- 'laws.FnExactTimeAllKnow': WHATEVER THE INPUT: true; the input reads as it did. -/
def fnExactTimeAllKnowSpec : ChangeSpec := { name := "fnExactTimeAllKnow", fn := fun _ => fun
  | [d1, d2] => { results := [.lit (.bool true)], args := [d1, d2] }
  | _ => none }
def fnExactTimeAllKnowRow : OpenClaim := { program := "ytocnicmnckilkaa", sum := "4e7db163806ce64d76e1419f658d8fda40b06a1cea188d14a39c822c8c91ef82", func := "loop.example/g01332/laws.FnExactTimeAllKnow", spec := "fnExactTimeAllKnow", apart := false }
def FnExactTimeAllKnowSaid : Prop := fnExactTimeAllKnowRow.holds Try.pinned (OpenSpec.ofChange fnExactTimeAllKnowSpec)

/-- ITS FALSE NEIGHBOUR: 'it returns false'. Refute it at one input. -/
def fnExactTimeAllKnowWrong : ChangeSpec := { name := "fnExactTimeAllKnow", fn := fun _ => fun
  | [d1, d2] => { results := [.lit (.bool false)], args := [d1, d2] }
  | _ => none }
def FnExactTimeAllKnowWrongFalsely : Prop := fnExactTimeAllKnowRow.holds Try.pinned (OpenSpec.ofChange fnExactTimeAllKnowWrong)

/- THE SECOND FORM. 'bulk': how many values and letters a reading holds, each counted each time it is reached (what is shared counts as often as it is met; a slice's spare places count too). A statement '..UptoSaid' is the law's where the arguments, and the package variables that the reading takes, are together of bulk at most 1048576: NARROWER than '..Said'. Prove '..Said' where nothing that the law and all that it calls make is longer than what came in: it says more and counts as full. Else prove '..UptoSaid'. A law counts once. -/
mutual
def uptoBulk {H : Type} : DataW H → Nat
  | .lit (.string bytes) => bytes.length + 1
  | .lit _ => 1
  | .nil => 1
  | .ptr d => uptoBulk d + 1
  | .slice elems spare => uptoBulkAll elems + uptoBulkAll spare + 1
  | .agg parts => uptoBulkAll parts + 1
  | .iface _ d => uptoBulk d + 1
  | .map entries => uptoBulkEntries entries + 1
  | .held _ => 1
def uptoBulkAll {H : Type} : List (DataW H) → Nat
  | [] => 0
  | d :: r => uptoBulk d + uptoBulkAll r
def uptoBulkEntries {H : Type} : List (Lit × DataW H) → Nat
  | [] => 0
  | x :: r => uptoBulkEntry x + uptoBulkEntries r
def uptoBulkEntry {H : Type} : Lit × DataW H → Nat
  | (.string bytes, d) => bytes.length + uptoBulk d + 1
  | (_, d) => uptoBulk d + 1
 end
def uptoSmall : (H : Type) → List (DataW H) → Bool := fun _ ds => decide (uptoBulkAll ds ≤ 1048576)
def OpenSpec.upto (s : _root_.Go.ChangeSpec) : _root_.Go.OpenSpec := { _root_.Go.OpenSpec.ofChange s with cond := some uptoSmall }

/-- 'laws.FnExactFirstDesk', WHERE WHAT IT READS IS OF BULK AT MOST 1048576: true; the input reads as it did. -/
def fnExactFirstDeskUptoRow : OpenClaim := { program := "ytocnicmnckilkaa", sum := "4e7db163806ce64d76e1419f658d8fda40b06a1cea188d14a39c822c8c91ef82", func := "loop.example/g01332/laws.FnExactFirstDesk", spec := "fnExactFirstDesk", apart := false, narrowed := true }
def FnExactFirstDeskUptoSaid : Prop := fnExactFirstDeskUptoRow.holds Try.pinned (OpenSpec.upto fnExactFirstDeskSpec)

/-- 'laws.FnExactIsClue', WHERE WHAT IT READS IS OF BULK AT MOST 1048576: true; the input reads as it did. -/
def fnExactIsClueUptoRow : OpenClaim := { program := "ytocnicmnckilkaa", sum := "4e7db163806ce64d76e1419f658d8fda40b06a1cea188d14a39c822c8c91ef82", func := "loop.example/g01332/laws.FnExactIsClue", spec := "fnExactIsClue", apart := false, narrowed := true }
def FnExactIsClueUptoSaid : Prop := fnExactIsClueUptoRow.holds Try.pinned (OpenSpec.upto fnExactIsClueSpec)

/-- 'laws.FnExactAreSignals', WHERE WHAT IT READS IS OF BULK AT MOST 1048576: true; the input reads as it did. -/
def fnExactAreSignalsUptoRow : OpenClaim := { program := "ytocnicmnckilkaa", sum := "4e7db163806ce64d76e1419f658d8fda40b06a1cea188d14a39c822c8c91ef82", func := "loop.example/g01332/laws.FnExactAreSignals", spec := "fnExactAreSignals", unfollowed := true, recurses := true, apart := false, narrowed := true }
def FnExactAreSignalsUptoSaid : Prop := fnExactAreSignalsUptoRow.holds Try.pinned (OpenSpec.upto fnExactAreSignalsSpec)

/-- 'laws.FnExactCountMeetings', WHERE WHAT IT READS IS OF BULK AT MOST 1048576: true; the input reads as it did. -/
def fnExactCountMeetingsUptoRow : OpenClaim := { program := "ytocnicmnckilkaa", sum := "4e7db163806ce64d76e1419f658d8fda40b06a1cea188d14a39c822c8c91ef82", func := "loop.example/g01332/laws.FnExactCountMeetings", spec := "fnExactCountMeetings", apart := false, narrowed := true }
def FnExactCountMeetingsUptoSaid : Prop := fnExactCountMeetingsUptoRow.holds Try.pinned (OpenSpec.upto fnExactCountMeetingsSpec)

/-- 'laws.FnExactFirstMeeting', WHERE WHAT IT READS IS OF BULK AT MOST 1048576: true; the input reads as it did. -/
def fnExactFirstMeetingUptoRow : OpenClaim := { program := "ytocnicmnckilkaa", sum := "4e7db163806ce64d76e1419f658d8fda40b06a1cea188d14a39c822c8c91ef82", func := "loop.example/g01332/laws.FnExactFirstMeeting", spec := "fnExactFirstMeeting", apart := false, narrowed := true }
def FnExactFirstMeetingUptoSaid : Prop := fnExactFirstMeetingUptoRow.holds Try.pinned (OpenSpec.upto fnExactFirstMeetingSpec)

/-- 'laws.FnExactTimeAllKnow', WHERE WHAT IT READS IS OF BULK AT MOST 1048576: true; the input reads as it did. -/
def fnExactTimeAllKnowUptoRow : OpenClaim := { program := "ytocnicmnckilkaa", sum := "4e7db163806ce64d76e1419f658d8fda40b06a1cea188d14a39c822c8c91ef82", func := "loop.example/g01332/laws.FnExactTimeAllKnow", spec := "fnExactTimeAllKnow", apart := false, narrowed := true }
def FnExactTimeAllKnowUptoSaid : Prop := fnExactTimeAllKnowUptoRow.holds Try.pinned (OpenSpec.upto fnExactTimeAllKnowSpec)

end Rows
end Go.Proofs.Ytocnicmnckilkaa
