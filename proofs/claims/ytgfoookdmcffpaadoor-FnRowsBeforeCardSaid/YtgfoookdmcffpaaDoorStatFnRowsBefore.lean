/- The pure statement of the law FnRowsBefore. No condition. -/
import Derived.Test.YtgfoookdmcffpaaDoorOpn
import Derived.Test.YtgfoookdmcffpaaDoorPFnRowsBeforex7
namespace Go.Proofs.YtgfoookdmcffpaaDoor.Pure
open Go.RowKit Go.Proofs.YtgfoookdmcffpaaDoor.PFnRowsBefore Go.Proofs.YtgfoookdmcffpaaDoorW.PrintWords Go.Proofs.YtgfoookdmcffpaaDoor.Opn
/-- What is left of the law FnRowsBefore. -/
def StatFnRowsBefore : Prop := ∀ (l0 : List (Int)) (l1 : List (Int)), l0.length * 1 ≤ 140737488351232 → (∀ x ∈ l0, (0 ≤ x ∧ x ≤ 255)) → l1.length * 1 ≤ 140737488351232 → (∀ x ∈ l1, (0 ≤ x ∧ x ≤ 255)) → ∃ k_ : Nat, laws_FnRowsBefore.f k_ l0 l1 = some true
end Go.Proofs.YtgfoookdmcffpaaDoor.Pure
