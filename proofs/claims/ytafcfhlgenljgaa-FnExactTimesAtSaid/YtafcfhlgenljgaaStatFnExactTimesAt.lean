/- The pure statement of the law FnExactTimesAt. No condition. -/
import Derived.Test.YtafcfhlgenljgaaOpn
import Derived.Test.YtafcfhlgenljgaaPFnExactTimesAtx3
namespace Go.Proofs.Ytafcfhlgenljgaa.Pure
open Go.RowKit Go.Proofs.Ytafcfhlgenljgaa.PFnExactTimesAt Go.Proofs.YtafcfhlgenljgaaW.PrintWords Go.Proofs.Ytafcfhlgenljgaa.Opn
/-- What is left of the law FnExactTimesAt. -/
def StatFnExactTimesAt : Prop := ∀ (a0 : Int) (a1_0 : Int) (a1_1 : Bool) (a1_2 : Int) (a2 : Int) (a3 : Int), I64 a0 → I64 a1_0 → I64 a1_2 → I64 a2 → I64 a3 → ∃ k_ : Nat, laws_FnExactTimesAt.f k_ a0 a1_0 a1_1 a1_2 a2 a3 = some true
end Go.Proofs.Ytafcfhlgenljgaa.Pure
