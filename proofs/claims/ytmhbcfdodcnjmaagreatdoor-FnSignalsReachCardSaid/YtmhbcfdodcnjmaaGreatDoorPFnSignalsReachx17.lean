-- Laid by xprint, a program of this session that runs over the kit's print.
import Derived.Test.YtmhbcfdodcnjmaaGreatDoorPFnSignalsReachx0
import Derived.Test.YtmhbcfdodcnjmaaGreatDoorPFnSignalsReachx1
import Derived.Test.YtmhbcfdodcnjmaaGreatDoorPFnSignalsReachx2
import Derived.Test.YtmhbcfdodcnjmaaGreatDoorPFnSignalsReachx3
import Derived.Test.YtmhbcfdodcnjmaaGreatDoorPFnSignalsReachx4
import Derived.Test.YtmhbcfdodcnjmaaGreatDoorPFnSignalsReachx5
import Derived.Test.YtmhbcfdodcnjmaaGreatDoorPFnSignalsReachx6
import Derived.Test.YtmhbcfdodcnjmaaGreatDoorPFnSignalsReachx7
import Derived.Test.YtmhbcfdodcnjmaaGreatDoorPFnSignalsReachx8
import Derived.Test.YtmhbcfdodcnjmaaGreatDoorPFnSignalsReachx9
import Derived.Test.YtmhbcfdodcnjmaaGreatDoorPFnSignalsReachx11
import Derived.Test.YtmhbcfdodcnjmaaGreatDoorPFnSignalsReachx12
import Derived.Test.YtmhbcfdodcnjmaaGreatDoorPFnSignalsReachx13
import Derived.Test.YtmhbcfdodcnjmaaGreatDoorPFnSignalsReachx14
import Derived.Test.YtmhbcfdodcnjmaaGreatDoorPFnSignalsReachx15
import Derived.Test.YtmhbcfdodcnjmaaGreatDoorPFnSignalsReachx16
namespace Go.Proofs.YtmhbcfdodcnjmaaGreatDoor.PFnSignalsReach
open Go.RowKit Go.Proofs.YtmhbcfdodcnjmaaGreatDoorW.PrintWords Go.Proofs.YtmhbcfdodcnjmaaGreatDoorW.PrintLast Go.Proofs.YtmhbcfdodcnjmaaGreatDoorW.PrintMore Go.Proofs.YtmhbcfdodcnjmaaGreatDoor.Sq
attribute [local go_sem] max2_int min2_int max_two min_two max_three min_three max_four min_four   -- for this text's walks alone
set_option linter.unusedVariables false
set_option linter.unusedSimpArgs false

attribute [local go_sem high] eqA36
/-! ### laws_FnSignalsReach: function 3 -/
mutual
def laws_FnSignalsReach.j0 : Nat → List Int → Int → List (S36) → Int → List Int → Bool → Int → Bool → Option (Bool)
  | 0, _, _, _, _, _, _, _, _ => none
  | k + 1, x1, x5, x6, x7, x8, x9, x12, x155 => if x155 = true then (some false) else (if x9 = true then ((laws_vRises.f k x8).bind fun t587 => (if t587 = true then (if (((x8.length : Int) == x5) != (decide (x7 ≥ x12))) = true then (some false) else (laws_FnSignalsReach.l0 k x1 x5 x6 x7 x8 x6 (x6.length : Int) 0)) else (some false))) else (laws_FnSignalsReach.j3 k x1))
def laws_FnSignalsReach.j3 : Nat → List Int → Option (Bool)
  | 0, _ => none
  | k + 1, x1 => (spec_DrawSpreadTimes.f k x1).bind fun bt597 => ((impl_SpreadTimes.f k bt597.1 bt597.2).bind fun bt601 => ((spec_SpreadTimes.f k bt597.1 bt597.2).bind fun bt605 => ((impl_TimeAllKnow.f k bt597.1 bt597.2).bind fun bt609 => ((spec_TimeAllKnow.f k bt597.1 bt597.2).bind fun bt611 => ((spec_DrawBestStarts.f x1).bind fun bt613 => ((impl_BestStarts.f k bt613.1 bt613.2).bind fun bt615 => ((spec_BestStarts.f k bt613.1 bt613.2).bind fun bt619 => ((impl_LeastTimeWith.f k bt613.1 bt613.2).bind fun bt623 => ((spec_LeastTimeWith.f k bt613.1 bt613.2).bind fun bt625 => ((spec_DrawWaitsFor.f x1).bind fun bt627 => ((impl_WaitsFor.f k bt627.1 bt627.2).bind fun bt629 => ((spec_WaitsFor.f k bt627.1 bt627.2).bind fun bt633 => ((spec_DrawMiddleMeeting.f x1).bind fun t637 => ((impl_MiddleMeeting.f k t637).bind fun bt638 => ((spec_MiddleMeeting.f k t637).bind fun bt641 => ((spec_DrawSignalText.f x1).bind fun bt644 => ((impl_SignalText.f bt644.1 bt644.2.1 bt644.2.2).bind fun bt648 => ((spec_SignalText.f k bt644.1 bt644.2.1 bt644.2.2).bind fun bt650 => ((spec_DrawParseSignal.f k x1).bind fun t652 => ((impl_ParseSignal.f t652).bind fun bt653 => ((spec_ParseSignal.f k t652).bind fun bt658 => (if (bt601.2 != bt605.2) = true then (some false) else ((laws_vSame.f k bt601.1 bt605.1).bind fun t663 => (if t663 = true then (if (bt609.2 != bt611.2) = true then (some false) else (if bt609.1 = bt611.1 then (if (bt615.2 != bt619.2) = true then (some false) else ((laws_vSame.f k bt615.1 bt619.1).bind fun t664 => (if t664 = true then (if (bt623.2 != bt625.2) = true then (some false) else (if bt623.1 = bt625.1 then (if (bt629.2 != bt633.2) = true then (some false) else ((laws_vSame.f k bt629.1 bt633.1).bind fun t665 => (if t665 = true then (if (bt638.2.2 != bt641.2.2) = true then (some false) else (if bt638.1 = bt641.1 then (if bt638.2.1 = bt641.2.1 then (if (bt648.2 != bt650.2) = true then (some false) else (if bt648.1.toList = bt650.1.toList then (if (bt653.2.2.2 != bt658.2.2.2) = true then (some false) else (if (!(bt653.1 == bt658.1) || (!(bt653.2.1 == bt658.2.1) || (!(bt653.2.2.1 == bt658.2.2.1)))) = true then (some false) else (if (bt609.2 != bt601.2) = true then (some false) else (if bt615.2 = true then (laws_FnSignalsReach.j4 k bt597.1 bt597.2 bt601.1 bt601.2 bt609.1 bt613.1 bt613.2 bt615.1 bt615.2 bt623.1 bt627.1 bt627.2 bt629.1 bt629.2 t637 bt638.1 bt638.2.1 bt638.2.2 bt648.1 bt648.2 t652 bt653.2.2.2 (!bt623.2) bt644.1 bt644.2.1 bt644.2.2 bt653.1 bt653.2.1 bt653.2.2.1) else (laws_FnSignalsReach.j4 k bt597.1 bt597.2 bt601.1 bt601.2 bt609.1 bt613.1 bt613.2 bt615.1 bt615.2 bt623.1 bt627.1 bt627.2 bt629.1 bt629.2 t637 bt638.1 bt638.2.1 bt638.2.2 bt648.1 bt648.2 t652 bt653.2.2.2 false bt644.1 bt644.2.1 bt644.2.2 bt653.1 bt653.2.1 bt653.2.2.1))))) else (some false))) else (some false)) else (some false))) else (some false)))) else (some false))) else (some false)))) else (some false))) else (some false)))))))))))))))))))))))))
def laws_FnSignalsReach.j4 : Nat → Int → List Int → List Int → Bool → Int → Int → Int → List Int → Bool → Int → Int → Int → List Int → Bool → Int → Int → Int → Bool → ByteArray → Bool → ByteArray → Bool → Bool → Int → Bool → Int → Int → Bool → Int → Option (Bool)
  | 0, _, _, _, _, _, _, _, _, _, _, _, _, _, _, _, _, _, _, _, _, _, _, _, _, _, _, _, _, _ => none
  | k + 1, x22, x23, x24, x25, x28, x32, x33, x34, x35, x38, x42, x43, x44, x45, x48, x49, x50, x51, x56, x57, x60, x62, x422, x648000, x648001, x648002, x658000, x658001, x658002 => if x422 = true then (some false) else (if x25 = true then (if (x24.length : Int) = x22 then ((laws_vMost.f k x24).bind fun t666 => (if t666 = x28 then (laws_FnSignalsReach.l2 k x23 x24 x32 x33 x34 x35 x38 x42 x43 x44 x45 x48 x49 x50 x51 x56 x57 x60 x62 x24 (x24.length : Int) 0 x648000 x648001 x648002 x658000 x658001 x658002) else (some false))) else (some false)) else (laws_FnSignalsReach.j6 k x32 x33 x34 x35 x38 x42 x43 x44 x45 x48 x49 x50 x51 x56 x57 x60 x62 x648000 x648001 x648002 x658000 x658001 x658002))
def laws_FnSignalsReach.j6 : Nat → Int → Int → List Int → Bool → Int → Int → Int → List Int → Bool → Int → Int → Int → Bool → ByteArray → Bool → ByteArray → Bool → Int → Bool → Int → Int → Bool → Int → Option (Bool)
  | 0, _, _, _, _, _, _, _, _, _, _, _, _, _, _, _, _, _, _, _, _, _, _, _ => none
  | k + 1, x32, x33, x34, x35, x38, x42, x43, x44, x45, x48, x49, x50, x51, x56, x57, x60, x62, x648000, x648001, x648002, x658000, x658001, x658002 => if x35 = true then ((impl_TimeAllKnow.f k x32 x34).bind fun bt671 => (if (x34.length : Int) = x33 then (if bt671.2 = true then (if bt671.1 = x38 then (laws_FnSignalsReach.j7 k x42 x43 x44 x45 x48 x49 x50 x51 x56 x57 x60 x62 x648000 x648001 x648002 x658000 x658001 x658002) else (some false)) else (some false)) else (some false))) else (laws_FnSignalsReach.j7 k x42 x43 x44 x45 x48 x49 x50 x51 x56 x57 x60 x62 x648000 x648001 x648002 x658000 x658001 x658002)
def laws_FnSignalsReach.j7 : Nat → Int → Int → List Int → Bool → Int → Int → Int → Bool → ByteArray → Bool → ByteArray → Bool → Int → Bool → Int → Int → Bool → Int → Option (Bool)
  | 0, _, _, _, _, _, _, _, _, _, _, _, _, _, _, _, _, _, _ => none
  | k + 1, x42, x43, x44, x45, x48, x49, x50, x51, x56, x57, x60, x62, x648000, x648001, x648002, x658000, x658001, x658002 => if x45 = true then ((impl_SpreadTimes.f k x42 (([x43] : List Int))).bind fun bt676 => (if bt676.2 = true then (if (x44.length : Int) = x42 then (if 0 ≤ x43 then (if x43 < (x44.length : Int) then ((laws_vMost.f k x44).bind fun t681 => (if (rd x44 x43) = t681 then (laws_FnSignalsReach.l3 k x43 x44 x48 x49 x50 x51 x56 x57 x60 x62 bt676.1 x44 (x44.length : Int) 0 x648000 x648001 x648002 x658000 x658001 x658002) else (some false))) else (none)) else (none)) else (some false)) else (some false))) else (laws_FnSignalsReach.j9 k x48 x49 x50 x51 x56 x57 x60 x62 x648000 x648001 x648002 x658000 x658001 x658002)
def laws_FnSignalsReach.j9 : Nat → Int → Int → Int → Bool → ByteArray → Bool → ByteArray → Bool → Int → Bool → Int → Int → Bool → Int → Option (Bool)
  | 0, _, _, _, _, _, _, _, _, _, _, _, _, _, _ => none
  | k + 1, x48, x49, x50, x51, x56, x57, x60, x62, x648000, x648001, x648002, x658000, x658001, x658002 => if x51 = true then (laws_FnSignalsReach.j10 k x48 x49 x50 x56 x57 x60 x62 ((Int.tmod x48 2) == 1) x648000 x648001 x648002 x658000 x658001 x658002) else (laws_FnSignalsReach.j10 k x48 x49 x50 x56 x57 x60 x62 false x648000 x648001 x648002 x658000 x658001 x658002)
def laws_FnSignalsReach.j10 : Nat → Int → Int → Int → ByteArray → Bool → ByteArray → Bool → Bool → Int → Bool → Int → Int → Bool → Int → Option (Bool)
  | 0, _, _, _, _, _, _, _, _, _, _, _, _, _, _ => none
  | k + 1, x48, x49, x50, x56, x57, x60, x62, x549, x648000, x648001, x648002, x658000, x658001, x658002 => if x549 = true then (if (wrap64 (2 * x50)) = (wrap64 (x48 - 1)) then (if x49 = (wrap64 (3 * x50)) then (laws_FnSignalsReach.j11 k x56 x57 x60 x62 x648000 x648001 x648002 x658000 x658001 x658002) else (some false)) else (some false)) else (laws_FnSignalsReach.j11 k x56 x57 x60 x62 x648000 x648001 x648002 x658000 x658001 x658002)
def laws_FnSignalsReach.j11 : Nat → ByteArray → Bool → ByteArray → Bool → Int → Bool → Int → Int → Bool → Int → Option (Bool)
  | 0, _, _, _, _, _, _, _, _, _, _ => none
  | k + 1, x56, x57, x60, x62, x648000, x648001, x648002, x658000, x658001, x658002 => if x57 = true then ((impl_ParseSignal.f x56).bind fun bt685 => (if bt685.2.2.2 = true then (if (!(bt685.1 == x648000) || (!(bt685.2.1 == x648001) || (!(bt685.2.2.1 == x648002)))) = true then (some false) else (if x62 = true then ((impl_SignalText.f x658000 x658001 x658002).bind fun bt690 => (if bt690.2 = true then (some (bt690.1.toList == x60.toList)) else (some false))) else (some true))) else (some false))) else (if x62 = true then ((impl_SignalText.f x658000 x658001 x658002).bind fun bt692 => (if bt692.2 = true then (some (bt692.1.toList == x60.toList)) else (some false))) else (some true))
def laws_FnSignalsReach.l3 : Nat → Int → List Int → Int → Int → Int → Bool → ByteArray → Bool → ByteArray → Bool → List Int → List Int → Int → Int → Int → Bool → Int → Int → Bool → Int → Option (Bool)
  | 0, _, _, _, _, _, _, _, _, _, _, _, _, _, _, _, _, _, _, _, _ => none
  | k + 1, x43, x44, x48, x49, x50, x51, x56, x57, x60, x62, x69, x521, x522, x523, x648000, x648001, x648002, x658000, x658001, x658002 => if x523 < x522 then (if 0 ≤ x523 then (if x523 < (x521.length : Int) then (if (rd x521 x523) < 0 then (some false) else (if x523 < (x69.length : Int) then (if 0 ≤ x43 then (if x43 < (x44.length : Int) then (if (wrap64 ((rd x521 x523) + (rd x69 x523))) = (rd x44 x43) then (laws_FnSignalsReach.l3 k x43 x44 x48 x49 x50 x51 x56 x57 x60 x62 x69 x521 x522 (wrap64 (x523 + 1)) x648000 x648001 x648002 x658000 x658001 x658002) else (some false)) else (none)) else (none)) else (none))) else (none)) else (none)) else (laws_FnSignalsReach.j9 k x48 x49 x50 x51 x56 x57 x60 x62 x648000 x648001 x648002 x658000 x658001 x658002)
def laws_FnSignalsReach.l2 : Nat → List Int → List Int → Int → Int → List Int → Bool → Int → Int → Int → List Int → Bool → Int → Int → Int → Bool → ByteArray → Bool → ByteArray → Bool → List Int → Int → Int → Int → Bool → Int → Int → Bool → Int → Option (Bool)
  | 0, _, _, _, _, _, _, _, _, _, _, _, _, _, _, _, _, _, _, _, _, _, _, _, _, _, _, _, _ => none
  | k + 1, x23, x24, x32, x33, x34, x35, x38, x42, x43, x44, x45, x48, x49, x50, x51, x56, x57, x60, x62, x434, x435, x436, x648000, x648001, x648002, x658000, x658001, x658002 => if x436 < x435 then (if 0 ≤ x436 then (if x436 < (x434.length : Int) then (if (rd x434 x436) < 0 then (some false) else ((laws_vHas.f k x23 x436).bind fun t668 => (if (((rd x434 x436) == 0) != t668) = true then (some false) else (if x436 > 0 then (if 0 ≤ (wrap64 (x436 - 1)) then (if (wrap64 (x436 - 1)) < (x24.length : Int) then (if (wrap64 ((rd x434 x436) - (rd x24 (wrap64 (x436 - 1))))) > 1 then (some false) else (if (wrap64 ((rd x24 (wrap64 (x436 - 1))) - (rd x434 x436))) > 1 then (some false) else (laws_FnSignalsReach.l2 k x23 x24 x32 x33 x34 x35 x38 x42 x43 x44 x45 x48 x49 x50 x51 x56 x57 x60 x62 x434 x435 (wrap64 (x436 + 1)) x648000 x648001 x648002 x658000 x658001 x658002))) else (none)) else (none)) else (laws_FnSignalsReach.l2 k x23 x24 x32 x33 x34 x35 x38 x42 x43 x44 x45 x48 x49 x50 x51 x56 x57 x60 x62 x434 x435 (wrap64 (x436 + 1)) x648000 x648001 x648002 x658000 x658001 x658002))))) else (none)) else (none)) else (laws_FnSignalsReach.j6 k x32 x33 x34 x35 x38 x42 x43 x44 x45 x48 x49 x50 x51 x56 x57 x60 x62 x648000 x648001 x648002 x658000 x658001 x658002)
def laws_FnSignalsReach.l0 : Nat → List Int → Int → List (S36) → Int → List Int → List (S36) → Int → Int → Option (Bool)
  | 0, _, _, _, _, _, _, _, _ => none
  | k + 1, x1, x5, x6, x7, x8, x170, x171, x172 => if x172 < x171 then (if 0 ≤ x172 then (if x172 < (x170.length : Int) then ((laws_vHas.f k x8 ((rd_T36 x170 x172).f0)).bind fun t590 => (if t590 = true then (laws_FnSignalsReach.l0 k x1 x5 x6 x7 x8 x170 x171 (wrap64 (x172 + 1))) else (some false))) else (none)) else (none)) else (if x7 > 0 then ((impl_HeardBy.f k x5 x6 (wrap64 (x7 - 1))).bind fun bt591 => (if bt591.2 = true then (if (bt591.1.length : Int) > (x8.length : Int) then (some false) else (laws_FnSignalsReach.l1 k x1 x8 bt591.1 (bt591.1.length : Int) 0)) else (some false))) else (laws_FnSignalsReach.j3 k x1))
def laws_FnSignalsReach.l1 : Nat → List Int → List Int → List Int → Int → Int → Option (Bool)
  | 0, _, _, _, _, _ => none
  | k + 1, x1, x8, x201, x202, x203 => if x203 < x202 then (if 0 ≤ x203 then (if x203 < (x201.length : Int) then ((laws_vHas.f k x8 (rd x201 x203)).bind fun t596 => (if t596 = true then (laws_FnSignalsReach.l1 k x1 x8 x201 x202 (wrap64 (x203 + 1))) else (some false))) else (none)) else (none)) else (laws_FnSignalsReach.j3 k x1)
end
def laws_FnSignalsReach.f (k : Nat) (l0 : List Int) (l1 : List Int) : Option (Bool) := (laws_big.f l0 l1).bind fun t564 => (if t564 = true then (some true) else ((spec_DrawHeardBy.f k l0).bind fun bt565 => ((impl_HeardBy.f k bt565.1 bt565.2.1 bt565.2.2).bind fun bt570 => ((spec_HeardBy.f k bt565.1 bt565.2.1 bt565.2.2).bind fun bt574 => ((impl_TimeAllHear.f k bt565.1 bt565.2.1).bind fun bt578 => ((spec_TimeAllHear.f k bt565.1 bt565.2.1).bind fun bt580 => (if (bt570.2 != bt574.2) = true then (some false) else ((laws_vSame.f k bt570.1 bt574.1).bind fun t582 => (if t582 = true then (if (bt578.2 != bt580.2) = true then (some false) else (if bt578.1 = bt580.1 then ((impl_AreSignals.f k bt565.1 bt565.2.1).bind fun t583 => ((spec_AreSignals.f k bt565.1 bt565.2.1).bind fun t584 => (if (t583 != t584) = true then (some false) else (if bt570.2 = true then (if bt578.2 = true then ((impl_AreSignals.f k bt565.1 bt565.2.1).bind fun t585 => (laws_FnSignalsReach.j0 k l1 bt565.1 bt565.2.1 bt565.2.2 bt570.1 bt570.2 bt578.1 (!t585))) else (some false)) else (if bt578.2 = true then ((impl_AreSignals.f k bt565.1 bt565.2.1).bind fun t586 => (laws_FnSignalsReach.j0 k l1 bt565.1 bt565.2.1 bt565.2.2 bt570.1 bt570.2 bt578.1 (!t586))) else (laws_FnSignalsReach.j0 k l1 bt565.1 bt565.2.1 bt565.2.2 bt570.1 bt570.2 bt578.1 false)))))) else (some false))) else (some false))))))))))
theorem laws_FnSignalsReach.mono_l : ∀ k, (∀ y0 y1 y2 y3 y4 y5 y6 y7, LeO (laws_FnSignalsReach.j0 k y0 y1 y2 y3 y4 y5 y6 y7) (laws_FnSignalsReach.j0 (k + 1) y0 y1 y2 y3 y4 y5 y6 y7)) ∧ (∀ y0, LeO (laws_FnSignalsReach.j3 k y0) (laws_FnSignalsReach.j3 (k + 1) y0)) ∧ (∀ y0 y1 y2 y3 y4 y5 y6 y7 y8 y9 y10 y11 y12 y13 y14 y15 y16 y17 y18 y19 y20 y21 y22 y23 y24 y25 y26 y27 y28, LeO (laws_FnSignalsReach.j4 k y0 y1 y2 y3 y4 y5 y6 y7 y8 y9 y10 y11 y12 y13 y14 y15 y16 y17 y18 y19 y20 y21 y22 y23 y24 y25 y26 y27 y28) (laws_FnSignalsReach.j4 (k + 1) y0 y1 y2 y3 y4 y5 y6 y7 y8 y9 y10 y11 y12 y13 y14 y15 y16 y17 y18 y19 y20 y21 y22 y23 y24 y25 y26 y27 y28)) ∧ (∀ y0 y1 y2 y3 y4 y5 y6 y7 y8 y9 y10 y11 y12 y13 y14 y15 y16 y17 y18 y19 y20 y21 y22, LeO (laws_FnSignalsReach.j6 k y0 y1 y2 y3 y4 y5 y6 y7 y8 y9 y10 y11 y12 y13 y14 y15 y16 y17 y18 y19 y20 y21 y22) (laws_FnSignalsReach.j6 (k + 1) y0 y1 y2 y3 y4 y5 y6 y7 y8 y9 y10 y11 y12 y13 y14 y15 y16 y17 y18 y19 y20 y21 y22)) ∧ (∀ y0 y1 y2 y3 y4 y5 y6 y7 y8 y9 y10 y11 y12 y13 y14 y15 y16 y17, LeO (laws_FnSignalsReach.j7 k y0 y1 y2 y3 y4 y5 y6 y7 y8 y9 y10 y11 y12 y13 y14 y15 y16 y17) (laws_FnSignalsReach.j7 (k + 1) y0 y1 y2 y3 y4 y5 y6 y7 y8 y9 y10 y11 y12 y13 y14 y15 y16 y17)) ∧ (∀ y0 y1 y2 y3 y4 y5 y6 y7 y8 y9 y10 y11 y12 y13, LeO (laws_FnSignalsReach.j9 k y0 y1 y2 y3 y4 y5 y6 y7 y8 y9 y10 y11 y12 y13) (laws_FnSignalsReach.j9 (k + 1) y0 y1 y2 y3 y4 y5 y6 y7 y8 y9 y10 y11 y12 y13)) ∧ (∀ y0 y1 y2 y3 y4 y5 y6 y7 y8 y9 y10 y11 y12 y13, LeO (laws_FnSignalsReach.j10 k y0 y1 y2 y3 y4 y5 y6 y7 y8 y9 y10 y11 y12 y13) (laws_FnSignalsReach.j10 (k + 1) y0 y1 y2 y3 y4 y5 y6 y7 y8 y9 y10 y11 y12 y13)) ∧ (∀ y0 y1 y2 y3 y4 y5 y6 y7 y8 y9, LeO (laws_FnSignalsReach.j11 k y0 y1 y2 y3 y4 y5 y6 y7 y8 y9) (laws_FnSignalsReach.j11 (k + 1) y0 y1 y2 y3 y4 y5 y6 y7 y8 y9)) ∧ (∀ y0 y1 y2 y3 y4 y5 y6 y7 y8 y9 y10 y11 y12 y13 y14 y15 y16 y17 y18 y19, LeO (laws_FnSignalsReach.l3 k y0 y1 y2 y3 y4 y5 y6 y7 y8 y9 y10 y11 y12 y13 y14 y15 y16 y17 y18 y19) (laws_FnSignalsReach.l3 (k + 1) y0 y1 y2 y3 y4 y5 y6 y7 y8 y9 y10 y11 y12 y13 y14 y15 y16 y17 y18 y19)) ∧ (∀ y0 y1 y2 y3 y4 y5 y6 y7 y8 y9 y10 y11 y12 y13 y14 y15 y16 y17 y18 y19 y20 y21 y22 y23 y24 y25 y26 y27, LeO (laws_FnSignalsReach.l2 k y0 y1 y2 y3 y4 y5 y6 y7 y8 y9 y10 y11 y12 y13 y14 y15 y16 y17 y18 y19 y20 y21 y22 y23 y24 y25 y26 y27) (laws_FnSignalsReach.l2 (k + 1) y0 y1 y2 y3 y4 y5 y6 y7 y8 y9 y10 y11 y12 y13 y14 y15 y16 y17 y18 y19 y20 y21 y22 y23 y24 y25 y26 y27)) ∧ (∀ y0 y1 y2 y3 y4 y5 y6 y7, LeO (laws_FnSignalsReach.l0 k y0 y1 y2 y3 y4 y5 y6 y7) (laws_FnSignalsReach.l0 (k + 1) y0 y1 y2 y3 y4 y5 y6 y7)) ∧ (∀ y0 y1 y2 y3 y4, LeO (laws_FnSignalsReach.l1 k y0 y1 y2 y3 y4) (laws_FnSignalsReach.l1 (k + 1) y0 y1 y2 y3 y4))
  | 0 => ⟨fun _ _ _ _ _ _ _ _ r h => by simp [laws_FnSignalsReach.j0] at h, fun _ r h => by simp [laws_FnSignalsReach.j3] at h, fun _ _ _ _ _ _ _ _ _ _ _ _ _ _ _ _ _ _ _ _ _ _ _ _ _ _ _ _ _ r h => by simp [laws_FnSignalsReach.j4] at h, fun _ _ _ _ _ _ _ _ _ _ _ _ _ _ _ _ _ _ _ _ _ _ _ r h => by simp [laws_FnSignalsReach.j6] at h, fun _ _ _ _ _ _ _ _ _ _ _ _ _ _ _ _ _ _ r h => by simp [laws_FnSignalsReach.j7] at h, fun _ _ _ _ _ _ _ _ _ _ _ _ _ _ r h => by simp [laws_FnSignalsReach.j9] at h, fun _ _ _ _ _ _ _ _ _ _ _ _ _ _ r h => by simp [laws_FnSignalsReach.j10] at h, fun _ _ _ _ _ _ _ _ _ _ r h => by simp [laws_FnSignalsReach.j11] at h, fun _ _ _ _ _ _ _ _ _ _ _ _ _ _ _ _ _ _ _ _ r h => by simp [laws_FnSignalsReach.l3] at h, fun _ _ _ _ _ _ _ _ _ _ _ _ _ _ _ _ _ _ _ _ _ _ _ _ _ _ _ _ r h => by simp [laws_FnSignalsReach.l2] at h, fun _ _ _ _ _ _ _ _ r h => by simp [laws_FnSignalsReach.l0] at h, fun _ _ _ _ _ r h => by simp [laws_FnSignalsReach.l1] at h⟩
  | k + 1 => by
    obtain ⟨ih0, ih1, ih2, ih3, ih4, ih5, ih6, ih7, ih8, ih9, ih10, ih11⟩ := laws_FnSignalsReach.mono_l k
    refine ⟨?q0, ?q1, ?q2, ?q3, ?q4, ?q5, ?q6, ?q7, ?q8, ?q9, ?q10, ?q11⟩
    case' q0 => (intros; unfold laws_FnSignalsReach.j0)
    case' q1 => (intros; unfold laws_FnSignalsReach.j3)
    case' q2 => (intros; unfold laws_FnSignalsReach.j4)
    case' q3 => (intros; unfold laws_FnSignalsReach.j6)
    case' q4 => (intros; unfold laws_FnSignalsReach.j7)
    case' q5 => (intros; unfold laws_FnSignalsReach.j9)
    case' q6 => (intros; unfold laws_FnSignalsReach.j10)
    case' q7 => (intros; unfold laws_FnSignalsReach.j11)
    case' q8 => (intros; unfold laws_FnSignalsReach.l3)
    case' q9 => (intros; unfold laws_FnSignalsReach.l2)
    case' q10 => (intros; unfold laws_FnSignalsReach.l0)
    case' q11 => (intros; unfold laws_FnSignalsReach.l1)
    all_goals repeat' first
     | (with_reducible exact ih0 _ _ _ _ _ _ _ _)
     | (with_reducible exact ih1 _)
     | (with_reducible exact ih2 _ _ _ _ _ _ _ _ _ _ _ _ _ _ _ _ _ _ _ _ _ _ _ _ _ _ _ _ _)
     | (with_reducible exact ih3 _ _ _ _ _ _ _ _ _ _ _ _ _ _ _ _ _ _ _ _ _ _ _)
     | (with_reducible exact ih4 _ _ _ _ _ _ _ _ _ _ _ _ _ _ _ _ _ _)
     | (with_reducible exact ih5 _ _ _ _ _ _ _ _ _ _ _ _ _ _)
     | (with_reducible exact ih6 _ _ _ _ _ _ _ _ _ _ _ _ _ _)
     | (with_reducible exact ih7 _ _ _ _ _ _ _ _ _ _)
     | (with_reducible exact ih8 _ _ _ _ _ _ _ _ _ _ _ _ _ _ _ _ _ _ _ _)
     | (with_reducible exact ih9 _ _ _ _ _ _ _ _ _ _ _ _ _ _ _ _ _ _ _ _ _ _ _ _ _ _ _ _)
     | (with_reducible exact ih10 _ _ _ _ _ _ _ _)
     | (with_reducible exact ih11 _ _ _ _ _)
     | (with_reducible exact impl_AreSignals.mono _ _ _)
     | (with_reducible exact impl_BestStarts.mono _ _ _)
     | (with_reducible exact impl_HeardBy.mono _ _ _ _)
     | (with_reducible exact impl_LeastTimeWith.mono _ _ _)
     | (with_reducible exact impl_MiddleMeeting.mono _ _)
     | (with_reducible exact impl_SpreadTimes.mono _ _ _)
     | (with_reducible exact impl_TimeAllHear.mono _ _ _)
     | (with_reducible exact impl_TimeAllKnow.mono _ _ _)
     | (with_reducible exact impl_WaitsFor.mono _ _ _)
     | (with_reducible exact laws_vHas.mono _ _ _)
     | (with_reducible exact laws_vMost.mono _ _)
     | (with_reducible exact laws_vRises.mono _ _)
     | (with_reducible exact laws_vSame.mono _ _ _)
     | (with_reducible exact spec_AreSignals.mono _ _ _)
     | (with_reducible exact spec_BestStarts.mono _ _ _)
     | (with_reducible exact spec_DrawHeardBy.mono _ _)
     | (with_reducible exact spec_DrawParseSignal.mono _ _)
     | (with_reducible exact spec_DrawSpreadTimes.mono _ _)
     | (with_reducible exact spec_HeardBy.mono _ _ _ _)
     | (with_reducible exact spec_LeastTimeWith.mono _ _ _)
     | (with_reducible exact spec_MiddleMeeting.mono _ _)
     | (with_reducible exact spec_ParseSignal.mono _ _)
     | (with_reducible exact spec_SignalText.mono _ _ _ _)
     | (with_reducible exact spec_SpreadTimes.mono _ _ _)
     | (with_reducible exact spec_TimeAllHear.mono _ _ _)
     | (with_reducible exact spec_TimeAllKnow.mono _ _ _)
     | (with_reducible exact spec_WaitsFor.mono _ _ _)
     | (with_reducible exact LeO.refl _)
     | (with_reducible exact LeO.none _)
     | (with_reducible refine LeO.ite ?_ ?_)
     | (with_reducible refine LeO.bind ?_ (fun _ => ?_))
     | exact ih0 _ _ _ _ _ _ _ _
     | exact ih1 _
     | exact ih2 _ _ _ _ _ _ _ _ _ _ _ _ _ _ _ _ _ _ _ _ _ _ _ _ _ _ _ _ _
     | exact ih3 _ _ _ _ _ _ _ _ _ _ _ _ _ _ _ _ _ _ _ _ _ _ _
     | exact ih4 _ _ _ _ _ _ _ _ _ _ _ _ _ _ _ _ _ _
     | exact ih5 _ _ _ _ _ _ _ _ _ _ _ _ _ _
     | exact ih6 _ _ _ _ _ _ _ _ _ _ _ _ _ _
     | exact ih7 _ _ _ _ _ _ _ _ _ _
     | exact ih8 _ _ _ _ _ _ _ _ _ _ _ _ _ _ _ _ _ _ _ _
     | exact ih9 _ _ _ _ _ _ _ _ _ _ _ _ _ _ _ _ _ _ _ _ _ _ _ _ _ _ _ _
     | exact ih10 _ _ _ _ _ _ _ _
     | exact ih11 _ _ _ _ _
     | exact impl_AreSignals.mono _ _ _
     | exact impl_BestStarts.mono _ _ _
     | exact impl_HeardBy.mono _ _ _ _
     | exact impl_LeastTimeWith.mono _ _ _
     | exact impl_MiddleMeeting.mono _ _
     | exact impl_SpreadTimes.mono _ _ _
     | exact impl_TimeAllHear.mono _ _ _
     | exact impl_TimeAllKnow.mono _ _ _
     | exact impl_WaitsFor.mono _ _ _
     | exact laws_vHas.mono _ _ _
     | exact laws_vMost.mono _ _
     | exact laws_vRises.mono _ _
     | exact laws_vSame.mono _ _ _
     | exact spec_AreSignals.mono _ _ _
     | exact spec_BestStarts.mono _ _ _
     | exact spec_DrawHeardBy.mono _ _
     | exact spec_DrawParseSignal.mono _ _
     | exact spec_DrawSpreadTimes.mono _ _
     | exact spec_HeardBy.mono _ _ _ _
     | exact spec_LeastTimeWith.mono _ _ _
     | exact spec_MiddleMeeting.mono _ _
     | exact spec_ParseSignal.mono _ _
     | exact spec_SignalText.mono _ _ _ _
     | exact spec_SpreadTimes.mono _ _ _
     | exact spec_TimeAllHear.mono _ _ _
     | exact spec_TimeAllKnow.mono _ _ _
     | exact spec_WaitsFor.mono _ _ _
     | exact LeO.none _
     | refine LeO.ite ?_ ?_
     | refine LeO.bind ?_ (fun _ => ?_)
theorem laws_FnSignalsReach.mono : ∀ a0 a1 k, LeO (laws_FnSignalsReach.f k a0 a1) (laws_FnSignalsReach.f (k + 1) a0 a1) := by
  intro a0 a1 k
  obtain ⟨ih0, ih1, ih2, ih3, ih4, ih5, ih6, ih7, ih8, ih9, ih10, ih11⟩ := laws_FnSignalsReach.mono_l k
  unfold laws_FnSignalsReach.f
  repeat' first
      | (with_reducible exact ih0 _ _ _ _ _ _ _ _)
      | (with_reducible exact ih1 _)
      | (with_reducible exact ih2 _ _ _ _ _ _ _ _ _ _ _ _ _ _ _ _ _ _ _ _ _ _ _ _ _ _ _ _ _)
      | (with_reducible exact ih3 _ _ _ _ _ _ _ _ _ _ _ _ _ _ _ _ _ _ _ _ _ _ _)
      | (with_reducible exact ih4 _ _ _ _ _ _ _ _ _ _ _ _ _ _ _ _ _ _)
      | (with_reducible exact ih5 _ _ _ _ _ _ _ _ _ _ _ _ _ _)
      | (with_reducible exact ih6 _ _ _ _ _ _ _ _ _ _ _ _ _ _)
      | (with_reducible exact ih7 _ _ _ _ _ _ _ _ _ _)
      | (with_reducible exact ih8 _ _ _ _ _ _ _ _ _ _ _ _ _ _ _ _ _ _ _ _)
      | (with_reducible exact ih9 _ _ _ _ _ _ _ _ _ _ _ _ _ _ _ _ _ _ _ _ _ _ _ _ _ _ _ _)
      | (with_reducible exact ih10 _ _ _ _ _ _ _ _)
      | (with_reducible exact ih11 _ _ _ _ _)
      | (with_reducible exact impl_AreSignals.mono _ _ _)
      | (with_reducible exact impl_BestStarts.mono _ _ _)
      | (with_reducible exact impl_HeardBy.mono _ _ _ _)
      | (with_reducible exact impl_LeastTimeWith.mono _ _ _)
      | (with_reducible exact impl_MiddleMeeting.mono _ _)
      | (with_reducible exact impl_SpreadTimes.mono _ _ _)
      | (with_reducible exact impl_TimeAllHear.mono _ _ _)
      | (with_reducible exact impl_TimeAllKnow.mono _ _ _)
      | (with_reducible exact impl_WaitsFor.mono _ _ _)
      | (with_reducible exact laws_vHas.mono _ _ _)
      | (with_reducible exact laws_vMost.mono _ _)
      | (with_reducible exact laws_vRises.mono _ _)
      | (with_reducible exact laws_vSame.mono _ _ _)
      | (with_reducible exact spec_AreSignals.mono _ _ _)
      | (with_reducible exact spec_BestStarts.mono _ _ _)
      | (with_reducible exact spec_DrawHeardBy.mono _ _)
      | (with_reducible exact spec_DrawParseSignal.mono _ _)
      | (with_reducible exact spec_DrawSpreadTimes.mono _ _)
      | (with_reducible exact spec_HeardBy.mono _ _ _ _)
      | (with_reducible exact spec_LeastTimeWith.mono _ _ _)
      | (with_reducible exact spec_MiddleMeeting.mono _ _)
      | (with_reducible exact spec_ParseSignal.mono _ _)
      | (with_reducible exact spec_SignalText.mono _ _ _ _)
      | (with_reducible exact spec_SpreadTimes.mono _ _ _)
      | (with_reducible exact spec_TimeAllHear.mono _ _ _)
      | (with_reducible exact spec_TimeAllKnow.mono _ _ _)
      | (with_reducible exact spec_WaitsFor.mono _ _ _)
      | (with_reducible exact LeO.refl _)
      | (with_reducible exact LeO.none _)
      | (with_reducible refine LeO.ite ?_ ?_)
      | (with_reducible refine LeO.bind ?_ (fun _ => ?_))
      | exact ih0 _ _ _ _ _ _ _ _
      | exact ih1 _
      | exact ih2 _ _ _ _ _ _ _ _ _ _ _ _ _ _ _ _ _ _ _ _ _ _ _ _ _ _ _ _ _
      | exact ih3 _ _ _ _ _ _ _ _ _ _ _ _ _ _ _ _ _ _ _ _ _ _ _
      | exact ih4 _ _ _ _ _ _ _ _ _ _ _ _ _ _ _ _ _ _
      | exact ih5 _ _ _ _ _ _ _ _ _ _ _ _ _ _
      | exact ih6 _ _ _ _ _ _ _ _ _ _ _ _ _ _
      | exact ih7 _ _ _ _ _ _ _ _ _ _
      | exact ih8 _ _ _ _ _ _ _ _ _ _ _ _ _ _ _ _ _ _ _ _
      | exact ih9 _ _ _ _ _ _ _ _ _ _ _ _ _ _ _ _ _ _ _ _ _ _ _ _ _ _ _ _
      | exact ih10 _ _ _ _ _ _ _ _
      | exact ih11 _ _ _ _ _
      | exact impl_AreSignals.mono _ _ _
      | exact impl_BestStarts.mono _ _ _
      | exact impl_HeardBy.mono _ _ _ _
      | exact impl_LeastTimeWith.mono _ _ _
      | exact impl_MiddleMeeting.mono _ _
      | exact impl_SpreadTimes.mono _ _ _
      | exact impl_TimeAllHear.mono _ _ _
      | exact impl_TimeAllKnow.mono _ _ _
      | exact impl_WaitsFor.mono _ _ _
      | exact laws_vHas.mono _ _ _
      | exact laws_vMost.mono _ _
      | exact laws_vRises.mono _ _
      | exact laws_vSame.mono _ _ _
      | exact spec_AreSignals.mono _ _ _
      | exact spec_BestStarts.mono _ _ _
      | exact spec_DrawHeardBy.mono _ _
      | exact spec_DrawParseSignal.mono _ _
      | exact spec_DrawSpreadTimes.mono _ _
      | exact spec_HeardBy.mono _ _ _ _
      | exact spec_LeastTimeWith.mono _ _ _
      | exact spec_MiddleMeeting.mono _ _
      | exact spec_ParseSignal.mono _ _
      | exact spec_SignalText.mono _ _ _ _
      | exact spec_SpreadTimes.mono _ _ _
      | exact spec_TimeAllHear.mono _ _ _
      | exact spec_TimeAllKnow.mono _ _ _
      | exact spec_WaitsFor.mono _ _ _
      | exact LeO.none _
      | refine LeO.ite ?_ ?_
      | refine LeO.bind ?_ (fun _ => ?_)
end Go.Proofs.YtmhbcfdodcnjmaaGreatDoor.PFnSignalsReach
