/- The pure statement of the law FnRowsRest. No condition. -/
import Derived.Test.YtolalphffodkdaaGreatDoorOpn
import Derived.Test.YtolalphffodkdaaGreatDoorPFnRowsRestx8
import Derived.Test.YtolalphffodkdaaGreatDoorPFnRowsRestx7
namespace Go.Proofs.YtolalphffodkdaaGreatDoor.Pure
open Go.RowKit Go.Proofs.YtolalphffodkdaaGreatDoor.PFnRowsRest Go.Proofs.YtolalphffodkdaaGreatDoorW.PrintWords Go.Proofs.YtolalphffodkdaaGreatDoor.Opn
/-- What is left of the law FnRowsRest. -/
def StatFnRowsRest : Prop := ∀ (l0 : List (Int)) (l1 : List (Int)), l0.length * 1 ≤ 140737488351232 → (∀ x ∈ l0, (0 ≤ x ∧ x ≤ 255)) → l1.length * 1 ≤ 140737488351232 → (∀ x ∈ l1, (0 ≤ x ∧ x ≤ 255)) → ∃ k_ : Nat, laws_FnRowsRest.f k_ l0 l1 = some true
end Go.Proofs.YtolalphffodkdaaGreatDoor.Pure
