/- The pure statement of the law FnRowsHidden. No condition. -/
import Derived.Test.YthjbmojacgkdcaaGreatDoorOpn
import Derived.Test.YthjbmojacgkdcaaGreatDoorPFnRowsHiddenx19
namespace Go.Proofs.YthjbmojacgkdcaaGreatDoor.Pure
open Go.RowKit Go.Proofs.YthjbmojacgkdcaaGreatDoor.PFnRowsHidden Go.Proofs.YthjbmojacgkdcaaGreatDoorW.PrintWords Go.Proofs.YthjbmojacgkdcaaGreatDoor.Opn
/-- What is left of the law FnRowsHidden. -/
def StatFnRowsHidden : Prop := ∀ (l0 : List (Int)) (l1 : List (Int)), l0.length * 1 ≤ 140737488351232 → (∀ x ∈ l0, (0 ≤ x ∧ x ≤ 255)) → l1.length * 1 ≤ 140737488351232 → (∀ x ∈ l1, (0 ≤ x ∧ x ≤ 255)) → ∃ k_ : Nat, laws_FnRowsHidden.f k_ l0 l1 = some true
end Go.Proofs.YthjbmojacgkdcaaGreatDoor.Pure
