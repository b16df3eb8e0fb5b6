/- The pure statement of the law FnExactDropClue. No condition. -/
import Derived.Test.YtphfbldnoinanaaOpn
import Derived.Test.YtphfbldnoinanaaPFnExactDropCluex6
namespace Go.Proofs.Ytphfbldnoinanaa.Pure
open Go.RowKit Go.Proofs.Ytphfbldnoinanaa.PFnExactDropClue Go.Proofs.YtphfbldnoinanaaW.PrintWords Go.Proofs.Ytphfbldnoinanaa.Opn
/-- What is left of the law FnExactDropClue. -/
def StatFnExactDropClue : Prop := ∀ (a0_0 : Int) (l0_1 : List (S34)) (a1 : Int), I64 a0_0 → l0_1.length * 32 ≤ 140737488351232 → (∀ x ∈ l0_1, (I64 x.f0) ∧ (I64 x.f1) ∧ (I64 x.f2) ∧ (I64 x.f3)) → I64 a1 → ∃ k_ : Nat, laws_FnExactDropClue.f k_ a0_0 l0_1 a1 = some true
end Go.Proofs.Ytphfbldnoinanaa.Pure
