/- The pure statement of the law FnExactParsePuzzle. No condition. -/
import Derived.Test.YthblgfiijakjlaaDoorOpn
import Derived.Test.YthblgfiijakjlaaDoorPFnExactParsePuzzlex9
namespace Go.Proofs.YthblgfiijakjlaaDoor.Pure
open Go.RowKit Go.Proofs.YthblgfiijakjlaaDoor.PFnExactParsePuzzle Go.Proofs.YthblgfiijakjlaaDoorW.PrintWords Go.Proofs.YthblgfiijakjlaaDoor.Opn
/-- What is left of the law FnExactParsePuzzle. -/
def StatFnExactParsePuzzle : Prop := ∀ (a0 : ByteArray), a0.size ≤ 140737488351232 → ∃ k_ : Nat, laws_FnExactParsePuzzle.f k_ a0 = some true
end Go.Proofs.YthblgfiijakjlaaDoor.Pure
