/- The pure statement of the law FnExactTimeAllKnow. No condition. -/
import Derived.Test.YtocnicmnckilkaaOpn
import Derived.Test.YtocnicmnckilkaaPFnExactTimeAllKnowx3
namespace Go.Proofs.Ytocnicmnckilkaa.Pure
open Go.RowKit Go.Proofs.Ytocnicmnckilkaa.PFnExactTimeAllKnow Go.Proofs.YtocnicmnckilkaaW.PrintWords Go.Proofs.Ytocnicmnckilkaa.Opn
/-- What is left of the law FnExactTimeAllKnow. -/
def StatFnExactTimeAllKnow : Prop := ∀ (a0 : Int) (l1 : List (Int)), I64 a0 → l1.length * 8 ≤ 140737488351232 → (∀ x ∈ l1, (I64 x)) → ∃ k_ : Nat, laws_FnExactTimeAllKnow.f k_ a0 l1 = some true
end Go.Proofs.Ytocnicmnckilkaa.Pure
