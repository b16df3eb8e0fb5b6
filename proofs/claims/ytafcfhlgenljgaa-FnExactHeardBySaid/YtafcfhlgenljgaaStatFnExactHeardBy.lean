/- The pure statement of the law FnExactHeardBy. No condition. -/
import Derived.Test.YtafcfhlgenljgaaOpn
import Derived.Test.YtafcfhlgenljgaaPFnExactHeardByx5
namespace Go.Proofs.Ytafcfhlgenljgaa.Pure
open Go.RowKit Go.Proofs.Ytafcfhlgenljgaa.PFnExactHeardBy Go.Proofs.YtafcfhlgenljgaaW.PrintWords Go.Proofs.Ytafcfhlgenljgaa.Opn
/-- What is left of the law FnExactHeardBy. -/
def StatFnExactHeardBy : Prop := ∀ (a0 : Int) (l1 : List (S23)) (a2 : Int), I64 a0 → l1.length * 24 ≤ 140737488351232 → (∀ x ∈ l1, (I64 x.f0) ∧ (I64 x.f2)) → I64 a2 → ∃ k_ : Nat, laws_FnExactHeardBy.f k_ a0 l1 a2 = some true
end Go.Proofs.Ytafcfhlgenljgaa.Pure
