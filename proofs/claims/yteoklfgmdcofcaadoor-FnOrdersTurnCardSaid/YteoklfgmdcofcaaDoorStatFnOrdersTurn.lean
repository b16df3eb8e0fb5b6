/- The pure statement of the law FnOrdersTurn. No condition. -/
import Derived.Test.YteoklfgmdcofcaaDoorOpn
import Derived.Test.YteoklfgmdcofcaaDoorPFnOrdersTurnx10
namespace Go.Proofs.YteoklfgmdcofcaaDoor.Pure
open Go.RowKit Go.Proofs.YteoklfgmdcofcaaDoor.PFnOrdersTurn Go.Proofs.YteoklfgmdcofcaaDoorW.PrintWords Go.Proofs.YteoklfgmdcofcaaDoor.Opn
/-- What is left of the law FnOrdersTurn. -/
def StatFnOrdersTurn : Prop := ∀ (l0 : List (Int)) (l1 : List (Int)), l0.length * 1 ≤ 140737488351232 → (∀ x ∈ l0, (0 ≤ x ∧ x ≤ 255)) → l1.length * 1 ≤ 140737488351232 → (∀ x ∈ l1, (0 ≤ x ∧ x ≤ 255)) → ∃ k_ : Nat, laws_FnOrdersTurn.f k_ l0 l1 = some true
end Go.Proofs.YteoklfgmdcofcaaDoor.Pure
