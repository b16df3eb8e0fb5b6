/- The pure statement of the law FnExactSpreadTimes. No condition. -/
import Derived.Test.YtafcfhlgenljgaaOpn
import Derived.Test.YtafcfhlgenljgaaPFnExactSpreadTimesx3
namespace Go.Proofs.Ytafcfhlgenljgaa.Pure
open Go.RowKit Go.Proofs.Ytafcfhlgenljgaa.PFnExactSpreadTimes Go.Proofs.YtafcfhlgenljgaaW.PrintWords Go.Proofs.Ytafcfhlgenljgaa.Opn
/-- What is left of the law FnExactSpreadTimes. -/
def StatFnExactSpreadTimes : Prop := ∀ (a0 : Int) (l1 : List (Int)), I64 a0 → l1.length * 8 ≤ 140737488351232 → (∀ x ∈ l1, (I64 x)) → ∃ k_ : Nat, laws_FnExactSpreadTimes.f k_ a0 l1 = some true
end Go.Proofs.Ytafcfhlgenljgaa.Pure
