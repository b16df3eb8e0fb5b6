/- The pure statement of the law FnSignalsReachOfAll. No condition. -/
import Derived.Test.YtefihklpegcmpaaGreatDoorOpn
import Derived.Test.YtefihklpegcmpaaGreatDoorPFnSignalsReachOfAllx16
namespace Go.Proofs.YtefihklpegcmpaaGreatDoor.Pure
open Go.RowKit Go.Proofs.YtefihklpegcmpaaGreatDoor.PFnSignalsReachOfAll Go.Proofs.YtefihklpegcmpaaGreatDoorW.PrintWords Go.Proofs.YtefihklpegcmpaaGreatDoor.Opn
/-- What is left of the law FnSignalsReachOfAll. -/
def StatFnSignalsReachOfAll : Prop := ∀ (a0 : Int) (l1 : List (S25)) (a2 : Int) (a3 : Int) (l4 : List (Int)) (a5 : Int) (a6 : Int) (a7 : Int) (a8 : Int) (a9 : Int) (a10_0 : Int) (a10_1 : Bool) (a10_2 : Int) (a11 : ByteArray), I64 a0 → l1.length * 24 ≤ 140737488351232 → (∀ x ∈ l1, (I64 x.f0) ∧ (I64 x.f2)) → I64 a2 → I64 a3 → l4.length * 8 ≤ 140737488351232 → (∀ x ∈ l4, (I64 x)) → I64 a5 → I64 a6 → I64 a7 → I64 a8 → I64 a9 → I64 a10_0 → I64 a10_2 → a11.size ≤ 140737488351232 → ∃ k_ : Nat, laws_FnSignalsReachOfAll.f k_ a0 l1 a2 a3 l4 a5 a6 a7 a8 a9 a10_0 a10_1 a10_2 a11 = some true
end Go.Proofs.YtefihklpegcmpaaGreatDoor.Pure
