/- The pure statement of the law FnExactSureSigns. No condition. -/
import Derived.Test.YtmindeeacfdonaaDoorOpn
import Derived.Test.YtmindeeacfdonaaDoorPFnExactSureSignsx9
namespace Go.Proofs.YtmindeeacfdonaaDoor.Pure
open Go.RowKit Go.Proofs.YtmindeeacfdonaaDoor.PFnExactSureSigns Go.Proofs.YtmindeeacfdonaaDoorW.PrintWords Go.Proofs.YtmindeeacfdonaaDoor.Opn
/-- What is left of the law FnExactSureSigns. -/
def StatFnExactSureSigns : Prop := ∀ (a0_0 : Int) (l0_1 : List (S30)), I64 a0_0 → l0_1.length * 32 ≤ 140737488351232 → (∀ x ∈ l0_1, (I64 x.f0) ∧ (I64 x.f1) ∧ (I64 x.f2) ∧ (I64 x.f3)) → ∃ k_ : Nat, laws_FnExactSureSigns.f k_ a0_0 l0_1 = some true
end Go.Proofs.YtmindeeacfdonaaDoor.Pure
