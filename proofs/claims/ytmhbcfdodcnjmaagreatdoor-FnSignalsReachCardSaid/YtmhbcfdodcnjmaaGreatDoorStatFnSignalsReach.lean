/- The pure statement of the law FnSignalsReach. No condition. -/
import Derived.Test.YtmhbcfdodcnjmaaGreatDoorOpn
import Derived.Test.YtmhbcfdodcnjmaaGreatDoorPFnSignalsReachx18
namespace Go.Proofs.YtmhbcfdodcnjmaaGreatDoor.Pure
open Go.RowKit Go.Proofs.YtmhbcfdodcnjmaaGreatDoor.PFnSignalsReach Go.Proofs.YtmhbcfdodcnjmaaGreatDoorW.PrintWords Go.Proofs.YtmhbcfdodcnjmaaGreatDoor.Opn
/-- What is left of the law FnSignalsReach. -/
def StatFnSignalsReach : Prop := ∀ (l0 : List (Int)) (l1 : List (Int)), l0.length * 1 ≤ 140737488351232 → (∀ x ∈ l0, (0 ≤ x ∧ x ≤ 255)) → l1.length * 1 ≤ 140737488351232 → (∀ x ∈ l1, (0 ≤ x ∧ x ≤ 255)) → ∃ k_ : Nat, laws_FnSignalsReach.f k_ l0 l1 = some true
end Go.Proofs.YtmhbcfdodcnjmaaGreatDoor.Pure
