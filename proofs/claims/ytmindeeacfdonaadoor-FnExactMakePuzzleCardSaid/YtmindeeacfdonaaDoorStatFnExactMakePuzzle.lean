/- The pure statement of the law FnExactMakePuzzle. No condition. -/
import Derived.Test.YtmindeeacfdonaaDoorOpn
import Derived.Test.YtmindeeacfdonaaDoorPFnExactMakePuzzlex7
namespace Go.Proofs.YtmindeeacfdonaaDoor.Pure
open Go.RowKit Go.Proofs.YtmindeeacfdonaaDoor.PFnExactMakePuzzle Go.Proofs.YtmindeeacfdonaaDoorW.PrintWords Go.Proofs.YtmindeeacfdonaaDoor.Opn
/-- What is left of the law FnExactMakePuzzle. -/
def StatFnExactMakePuzzle : Prop := ∀ (a0 : ByteArray) (a1 : Int) (a2 : Int), a0.size ≤ 140737488351232 → I64 a1 → I64 a2 → ∃ k_ : Nat, laws_FnExactMakePuzzle.f k_ a0 a1 a2 = some true
end Go.Proofs.YtmindeeacfdonaaDoor.Pure
