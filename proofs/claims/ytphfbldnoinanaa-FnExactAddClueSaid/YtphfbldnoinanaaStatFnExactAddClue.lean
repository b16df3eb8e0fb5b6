/- The pure statement of the law FnExactAddClue. No condition. -/
import Derived.Test.YtphfbldnoinanaaOpn
import Derived.Test.YtphfbldnoinanaaPFnExactAddCluex7
namespace Go.Proofs.Ytphfbldnoinanaa.Pure
open Go.RowKit Go.Proofs.Ytphfbldnoinanaa.PFnExactAddClue Go.Proofs.YtphfbldnoinanaaW.PrintWords Go.Proofs.Ytphfbldnoinanaa.Opn
/-- What is left of the law FnExactAddClue. -/
def StatFnExactAddClue : Prop := ∀ (a0_0 : Int) (l0_1 : List (S34)) (a1_0 : Int) (a1_1 : Int) (a1_2 : Int) (a1_3 : Int), I64 a0_0 → l0_1.length * 32 ≤ 140737488351232 → (∀ x ∈ l0_1, (I64 x.f0) ∧ (I64 x.f1) ∧ (I64 x.f2) ∧ (I64 x.f3)) → I64 a1_0 → I64 a1_1 → I64 a1_2 → I64 a1_3 → ∃ k_ : Nat, laws_FnExactAddClue.f k_ a0_0 l0_1 a1_0 a1_1 a1_2 a1_3 = some true
end Go.Proofs.Ytphfbldnoinanaa.Pure
