/- The pure statement of the law FnExactDoesFit. No condition. -/
import Derived.Test.YtmindeeacfdonaaDoorOpn
import Derived.Test.YtmindeeacfdonaaDoorPFnExactDoesFitx5
namespace Go.Proofs.YtmindeeacfdonaaDoor.Pure
open Go.RowKit Go.Proofs.YtmindeeacfdonaaDoor.PFnExactDoesFit Go.Proofs.YtmindeeacfdonaaDoorW.PrintWords Go.Proofs.YtmindeeacfdonaaDoor.Opn
/-- What is left of the law FnExactDoesFit. -/
def StatFnExactDoesFit : Prop := ∀ (a0_0 : Int) (a0_1 : Int) (a0_2 : Int) (a0_3 : Int) (a1 : ByteArray), I64 a0_0 → I64 a0_1 → I64 a0_2 → I64 a0_3 → a1.size ≤ 140737488351232 → ∃ k_ : Nat, laws_FnExactDoesFit.f k_ a0_0 a0_1 a0_2 a0_3 a1 = some true
end Go.Proofs.YtmindeeacfdonaaDoor.Pure
