/- The pure statement of the law FnExactPuzzleText. No condition. -/
import Derived.Test.YtonnpncccjpmaaaDoorOpn
import Derived.Test.YtonnpncccjpmaaaDoorPFnExactPuzzleTextx6
namespace Go.Proofs.YtonnpncccjpmaaaDoor.Pure
open Go.RowKit Go.Proofs.YtonnpncccjpmaaaDoor.PFnExactPuzzleText Go.Proofs.YtonnpncccjpmaaaDoorW.PrintWords Go.Proofs.YtonnpncccjpmaaaDoor.Opn
/-- What is left of the law FnExactPuzzleText. -/
def StatFnExactPuzzleText : Prop := ∀ (a0_0 : Int) (l0_1 : List (S54)), I64 a0_0 → l0_1.length * 32 ≤ 140737488351232 → (∀ x ∈ l0_1, (I64 x.f0) ∧ (I64 x.f1) ∧ (I64 x.f2) ∧ (I64 x.f3)) → ∃ k_ : Nat, laws_FnExactPuzzleText.f k_ a0_0 l0_1 = some true
end Go.Proofs.YtonnpncccjpmaaaDoor.Pure
