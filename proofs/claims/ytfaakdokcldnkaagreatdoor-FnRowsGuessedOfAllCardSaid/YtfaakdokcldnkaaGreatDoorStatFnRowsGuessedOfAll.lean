/- The pure statement of the law FnRowsGuessedOfAll. No condition. -/
import Derived.Test.YtfaakdokcldnkaaGreatDoorOpn
import Derived.Test.YtfaakdokcldnkaaGreatDoorPFnRowsGuessedOfAllx21
namespace Go.Proofs.YtfaakdokcldnkaaGreatDoor.Pure
open Go.RowKit Go.Proofs.YtfaakdokcldnkaaGreatDoor.PFnRowsGuessedOfAll Go.Proofs.YtfaakdokcldnkaaGreatDoorW.PrintWords Go.Proofs.YtfaakdokcldnkaaGreatDoor.Opn
/-- What is left of the law FnRowsGuessedOfAll. -/
def StatFnRowsGuessedOfAll : Prop := ∀ (a0_0 : Int) (l0_1 : List (S42)) (a1 : ByteArray), I64 a0_0 → l0_1.length * 32 ≤ 140737488351232 → (∀ x ∈ l0_1, (I64 x.f0) ∧ (I64 x.f1) ∧ (I64 x.f2) ∧ (I64 x.f3)) → a1.size ≤ 140737488351232 → ∃ k_ : Nat, laws_FnRowsGuessedOfAll.f k_ a0_0 l0_1 a1 = some true
end Go.Proofs.YtfaakdokcldnkaaGreatDoor.Pure
