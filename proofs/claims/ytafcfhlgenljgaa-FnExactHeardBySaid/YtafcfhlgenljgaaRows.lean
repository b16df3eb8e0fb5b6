/-
  No cell of these rows narrows 'for every input' (looked for: loops, veiled, ifaces, maps, wideKeys, modest, calm, conditions, laid).
  DERIVED. THE GIVEN ROWS OF THIS SEAT. 4 by the template 'for every input the law returns true; each argument reads behind the call as it read before'; 0 by the template 'total and deterministic' (their statements: YtafcfhlgenljgaaTotals.lean).
  GIVEN WITH THE SEED: the statements are not yours to turn. If you find one false, say at which input.
  Laid BY PROGRAM, IN A SANDBOX (cutbox-rows.mjs): the forced cells as the released guide's own fill.sh prints them over the translation e8b3e0286f3fe59c… (all of the seat's roots in one cut). By AI agents, Wed Nov 11 2026. No macro, syntax, notation, axiom, sorry.
-/
import Derived.Test.YtafcfhlgenljgaaChecked
import GoSem.Claim
import GoSem.ClaimJoined
import GoSem.ClaimMapViews
import Derived.JoinedTies
import Derived.KernelRfl
namespace Go.Proofs.Ytafcfhlgenljgaa
/- THE CELL 'sum', in the pinned program and in every row, IS THE sha256 OF THE DUMP (.gsa) THAT YtafcfhlgenljgaaProg.lean LOADS. Nothing in Lean hashes anything: it is a label: what it is worth is what the hold of that sum in a sandbox is worth. -/
noncomputable def Try.pinned : Pinned := { name := "ytafcfhlgenljgaa", sum := "e8b3e0286f3fe59c2bb60c67c05392a68fb0a871d615c3abab68db982749bf6a", checked := Try.checked }
namespace Rows
def none {H : Type} : Left H := { results := [], args := [] }

/-- 'laws.FnExactTimesAt': WHATEVER THE INPUT: true; the input reads as it did. -/
def fnExactTimesAtSpec : ChangeSpec := { name := "fnExactTimesAt", fn := fun _ => fun
  | [d1, d2, d3, d4] => { results := [.lit (.bool true)], args := [d1, d2, d3, d4] }
  | _ => none }
def fnExactTimesAtRow : OpenClaim := { program := "ytafcfhlgenljgaa", sum := "e8b3e0286f3fe59c2bb60c67c05392a68fb0a871d615c3abab68db982749bf6a", func := "loop.example/g01332/laws.FnExactTimesAt", spec := "fnExactTimesAt", apart := false }
def FnExactTimesAtSaid : Prop := fnExactTimesAtRow.holds Try.pinned (OpenSpec.ofChange fnExactTimesAtSpec)

/-- ITS FALSE NEIGHBOUR: 'it returns false'. Refute it at one input. -/
def fnExactTimesAtWrong : ChangeSpec := { name := "fnExactTimesAt", fn := fun _ => fun
  | [d1, d2, d3, d4] => { results := [.lit (.bool false)], args := [d1, d2, d3, d4] }
  | _ => none }
def FnExactTimesAtWrongFalsely : Prop := fnExactTimesAtRow.holds Try.pinned (OpenSpec.ofChange fnExactTimesAtWrong)

/-- 'laws.FnExactSpreadTimes': WHATEVER THE INPUT: true; the input reads as it did. -/
def fnExactSpreadTimesSpec : ChangeSpec := { name := "fnExactSpreadTimes", fn := fun _ => fun
  | [d1, d2] => { results := [.lit (.bool true)], args := [d1, d2] }
  | _ => none }
def fnExactSpreadTimesRow : OpenClaim := { program := "ytafcfhlgenljgaa", sum := "e8b3e0286f3fe59c2bb60c67c05392a68fb0a871d615c3abab68db982749bf6a", func := "loop.example/g01332/laws.FnExactSpreadTimes", spec := "fnExactSpreadTimes", apart := false }
def FnExactSpreadTimesSaid : Prop := fnExactSpreadTimesRow.holds Try.pinned (OpenSpec.ofChange fnExactSpreadTimesSpec)

/-- ITS FALSE NEIGHBOUR: 'it returns false'. Refute it at one input. -/
def fnExactSpreadTimesWrong : ChangeSpec := { name := "fnExactSpreadTimes", fn := fun _ => fun
  | [d1, d2] => { results := [.lit (.bool false)], args := [d1, d2] }
  | _ => none }
def FnExactSpreadTimesWrongFalsely : Prop := fnExactSpreadTimesRow.holds Try.pinned (OpenSpec.ofChange fnExactSpreadTimesWrong)

/-- 'laws.FnExactTimeAllHear': WHATEVER THE INPUT: true; the input reads as it did. -/
def fnExactTimeAllHearSpec : ChangeSpec := { name := "fnExactTimeAllHear", fn := fun _ => fun
  | [d1, d2] => { results := [.lit (.bool true)], args := [d1, d2] }
  | _ => none }
def fnExactTimeAllHearRow : OpenClaim := { program := "ytafcfhlgenljgaa", sum := "e8b3e0286f3fe59c2bb60c67c05392a68fb0a871d615c3abab68db982749bf6a", func := "loop.example/g01332/laws.FnExactTimeAllHear", spec := "fnExactTimeAllHear", unfollowed := true, recurses := true, apart := false }
def FnExactTimeAllHearSaid : Prop := fnExactTimeAllHearRow.holds Try.pinned (OpenSpec.ofChange fnExactTimeAllHearSpec)

/-- ITS FALSE NEIGHBOUR: 'it returns false'. Refute it at one input. -/
def fnExactTimeAllHearWrong : ChangeSpec := { name := "fnExactTimeAllHear", fn := fun _ => fun
  | [d1, d2] => { results := [.lit (.bool false)], args := [d1, d2] }
  | _ => none }
def FnExactTimeAllHearWrongFalsely : Prop := fnExactTimeAllHearRow.holds Try.pinned (OpenSpec.ofChange fnExactTimeAllHearWrong)

/-- 'laws.FnExactHeardBy': WHATEVER THE INPUT: true; the input reads as it did. -/
def fnExactHeardBySpec : ChangeSpec := { name := "fnExactHeardBy", fn := fun _ => fun
  | [d1, d2, d3] => { results := [.lit (.bool true)], args := [d1, d2, d3] }
  | _ => none }
def fnExactHeardByRow : OpenClaim := { program := "ytafcfhlgenljgaa", sum := "e8b3e0286f3fe59c2bb60c67c05392a68fb0a871d615c3abab68db982749bf6a", func := "loop.example/g01332/laws.FnExactHeardBy", spec := "fnExactHeardBy", unfollowed := true, recurses := true, apart := false }
def FnExactHeardBySaid : Prop := fnExactHeardByRow.holds Try.pinned (OpenSpec.ofChange fnExactHeardBySpec)

/-- ITS FALSE NEIGHBOUR: 'it returns false'. Refute it at one input. -/
def fnExactHeardByWrong : ChangeSpec := { name := "fnExactHeardBy", fn := fun _ => fun
  | [d1, d2, d3] => { results := [.lit (.bool false)], args := [d1, d2, d3] }
  | _ => none }
def FnExactHeardByWrongFalsely : Prop := fnExactHeardByRow.holds Try.pinned (OpenSpec.ofChange fnExactHeardByWrong)

/- THE SECOND FORM. 'bulk': how many values and letters a reading holds, each counted each time it is reached (what is shared counts as often as it is met; a slice's spare places count too). A statement '..UptoSaid' is the law's where the arguments, and the package variables that the reading takes, are together of bulk at most 1048576: NARROWER than '..Said'. Prove '..Said' where nothing that the law and all that it calls make is longer than what came in: it says more and counts as full. Else prove '..UptoSaid'. A law counts once. -/
mutual
def uptoBulk {H : Type} : DataW H → Nat
  | .lit (.string bytes) => bytes.length + 1
  | .lit _ => 1
  | .nil => 1
  | .ptr d => uptoBulk d + 1
  | .slice elems spare => uptoBulkAll elems + uptoBulkAll spare + 1
  | .agg parts => uptoBulkAll parts + 1
  | .iface _ d => uptoBulk d + 1
  | .map entries => uptoBulkEntries entries + 1
  | .held _ => 1
def uptoBulkAll {H : Type} : List (DataW H) → Nat
  | [] => 0
  | d :: r => uptoBulk d + uptoBulkAll r
def uptoBulkEntries {H : Type} : List (Lit × DataW H) → Nat
  | [] => 0
  | x :: r => uptoBulkEntry x + uptoBulkEntries r
def uptoBulkEntry {H : Type} : Lit × DataW H → Nat
  | (.string bytes, d) => bytes.length + uptoBulk d + 1
  | (_, d) => uptoBulk d + 1
 end
def uptoSmall : (H : Type) → List (DataW H) → Bool := fun _ ds => decide (uptoBulkAll ds ≤ 1048576)
def OpenSpec.upto (s : _root_.Go.ChangeSpec) : _root_.Go.OpenSpec := { _root_.Go.OpenSpec.ofChange s with cond := some uptoSmall }

/-- 'laws.FnExactTimesAt', WHERE WHAT IT READS IS OF BULK AT MOST 1048576: true; the input reads as it did. -/
def fnExactTimesAtUptoRow : OpenClaim := { program := "ytafcfhlgenljgaa", sum := "e8b3e0286f3fe59c2bb60c67c05392a68fb0a871d615c3abab68db982749bf6a", func := "loop.example/g01332/laws.FnExactTimesAt", spec := "fnExactTimesAt", apart := false, narrowed := true }
def FnExactTimesAtUptoSaid : Prop := fnExactTimesAtUptoRow.holds Try.pinned (OpenSpec.upto fnExactTimesAtSpec)

/-- 'laws.FnExactSpreadTimes', WHERE WHAT IT READS IS OF BULK AT MOST 1048576: true; the input reads as it did. -/
def fnExactSpreadTimesUptoRow : OpenClaim := { program := "ytafcfhlgenljgaa", sum := "e8b3e0286f3fe59c2bb60c67c05392a68fb0a871d615c3abab68db982749bf6a", func := "loop.example/g01332/laws.FnExactSpreadTimes", spec := "fnExactSpreadTimes", apart := false, narrowed := true }
def FnExactSpreadTimesUptoSaid : Prop := fnExactSpreadTimesUptoRow.holds Try.pinned (OpenSpec.upto fnExactSpreadTimesSpec)

/-- 'laws.FnExactTimeAllHear', WHERE WHAT IT READS IS OF BULK AT MOST 1048576: true; the input reads as it did. -/
def fnExactTimeAllHearUptoRow : OpenClaim := { program := "ytafcfhlgenljgaa", sum := "e8b3e0286f3fe59c2bb60c67c05392a68fb0a871d615c3abab68db982749bf6a", func := "loop.example/g01332/laws.FnExactTimeAllHear", spec := "fnExactTimeAllHear", unfollowed := true, recurses := true, apart := false, narrowed := true }
def FnExactTimeAllHearUptoSaid : Prop := fnExactTimeAllHearUptoRow.holds Try.pinned (OpenSpec.upto fnExactTimeAllHearSpec)

/-- 'laws.FnExactHeardBy', WHERE WHAT IT READS IS OF BULK AT MOST 1048576: true; the input reads as it did. -/
def fnExactHeardByUptoRow : OpenClaim := { program := "ytafcfhlgenljgaa", sum := "e8b3e0286f3fe59c2bb60c67c05392a68fb0a871d615c3abab68db982749bf6a", func := "loop.example/g01332/laws.FnExactHeardBy", spec := "fnExactHeardBy", unfollowed := true, recurses := true, apart := false, narrowed := true }
def FnExactHeardByUptoSaid : Prop := fnExactHeardByUptoRow.holds Try.pinned (OpenSpec.upto fnExactHeardBySpec)

end Rows
end Go.Proofs.Ytafcfhlgenljgaa
