/- The pure statement of the law FnExactIsDesk. No condition. -/
import Derived.Test.YtmindeeacfdonaaDoorOpn
import Derived.Test.YtmindeeacfdonaaDoorPFnExactIsDeskx1
namespace Go.Proofs.YtmindeeacfdonaaDoor.Pure
open Go.RowKit Go.Proofs.YtmindeeacfdonaaDoor.PFnExactIsDesk Go.Proofs.YtmindeeacfdonaaDoorW.PrintWords Go.Proofs.YtmindeeacfdonaaDoor.Opn
/-- What is left of the law FnExactIsDesk. -/
def StatFnExactIsDesk : Prop := ∀ (a0_0 : ByteArray) (a0_1 : ByteArray), a0_0.size ≤ 140737488351232 → a0_1.size ≤ 140737488351232 → ∃ k_ : Nat, laws_FnExactIsDesk.f k_ a0_0 a0_1 = some true
end Go.Proofs.YtmindeeacfdonaaDoor.Pure
