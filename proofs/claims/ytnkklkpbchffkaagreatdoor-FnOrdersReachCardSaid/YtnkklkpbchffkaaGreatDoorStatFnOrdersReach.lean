/- The pure statement of the law FnOrdersReach. No condition. -/
import Derived.Test.YtnkklkpbchffkaaGreatDoorOpn
import Derived.Test.YtnkklkpbchffkaaGreatDoorPFnOrdersReachx10
namespace Go.Proofs.YtnkklkpbchffkaaGreatDoor.Pure
open Go.RowKit Go.Proofs.YtnkklkpbchffkaaGreatDoor.PFnOrdersReach Go.Proofs.YtnkklkpbchffkaaGreatDoorW.PrintWords Go.Proofs.YtnkklkpbchffkaaGreatDoor.Opn
/-- What is left of the law FnOrdersReach. -/
def StatFnOrdersReach : Prop := ∀ (l0 : List (Int)) (l1 : List (Int)), l0.length * 1 ≤ 140737488351232 → (∀ x ∈ l0, (0 ≤ x ∧ x ≤ 255)) → l1.length * 1 ≤ 140737488351232 → (∀ x ∈ l1, (0 ≤ x ∧ x ≤ 255)) → ∃ k_ : Nat, laws_FnOrdersReach.f k_ l0 l1 = some true
end Go.Proofs.YtnkklkpbchffkaaGreatDoor.Pure
