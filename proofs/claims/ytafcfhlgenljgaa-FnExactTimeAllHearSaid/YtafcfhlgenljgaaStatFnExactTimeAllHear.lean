/- The pure statement of the law FnExactTimeAllHear. No condition. -/
import Derived.Test.YtafcfhlgenljgaaOpn
import Derived.Test.YtafcfhlgenljgaaPFnExactTimeAllHearx4
namespace Go.Proofs.Ytafcfhlgenljgaa.Pure
open Go.RowKit Go.Proofs.Ytafcfhlgenljgaa.PFnExactTimeAllHear Go.Proofs.YtafcfhlgenljgaaW.PrintWords Go.Proofs.Ytafcfhlgenljgaa.Opn
/-- What is left of the law FnExactTimeAllHear. -/
def StatFnExactTimeAllHear : Prop := ∀ (a0 : Int) (l1 : List (S23)), I64 a0 → l1.length * 24 ≤ 140737488351232 → (∀ x ∈ l1, (I64 x.f0) ∧ (I64 x.f2)) → ∃ k_ : Nat, laws_FnExactTimeAllHear.f k_ a0 l1 = some true
end Go.Proofs.Ytafcfhlgenljgaa.Pure
