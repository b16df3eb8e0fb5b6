-- Laid by xprint, a program of this session that runs over the kit's print.
import Derived.Test.YtefihklpegcmpaaGreatDoorPFnSignalsReachOfAllx0
import Derived.Test.YtefihklpegcmpaaGreatDoorPFnSignalsReachOfAllx1
import Derived.Test.YtefihklpegcmpaaGreatDoorPFnSignalsReachOfAllx3
import Derived.Test.YtefihklpegcmpaaGreatDoorPFnSignalsReachOfAllx4
import Derived.Test.YtefihklpegcmpaaGreatDoorPFnSignalsReachOfAllx5
import Derived.Test.YtefihklpegcmpaaGreatDoorPFnSignalsReachOfAllx6
import Derived.Test.YtefihklpegcmpaaGreatDoorPFnSignalsReachOfAllx7
import Derived.Test.YtefihklpegcmpaaGreatDoorPFnSignalsReachOfAllx8
import Derived.Test.YtefihklpegcmpaaGreatDoorPFnSignalsReachOfAllx10
import Derived.Test.YtefihklpegcmpaaGreatDoorPFnSignalsReachOfAllx11
import Derived.Test.YtefihklpegcmpaaGreatDoorPFnSignalsReachOfAllx12
import Derived.Test.YtefihklpegcmpaaGreatDoorPFnSignalsReachOfAllx13
import Derived.Test.YtefihklpegcmpaaGreatDoorPFnSignalsReachOfAllx14
namespace Go.Proofs.YtefihklpegcmpaaGreatDoor.PFnSignalsReachOfAll
open Go.RowKit Go.Proofs.YtefihklpegcmpaaGreatDoorW.PrintWords Go.Proofs.YtefihklpegcmpaaGreatDoorW.PrintLast Go.Proofs.YtefihklpegcmpaaGreatDoorW.PrintMore Go.Proofs.YtefihklpegcmpaaGreatDoor.Sq
attribute [local go_sem] max2_int min2_int max_two min_two max_three min_three max_four min_four   -- for this text's walks alone
set_option linter.unusedVariables false
set_option linter.unusedSimpArgs false

attribute [local go_sem high] eqA25
/-! ### laws_FnSignalsReachOfAll: function 3 -/
mutual
def laws_FnSignalsReachOfAll.j0 : Nat → Int → List (S25) → Int → Int → List Int → Int → Int → Int → Int → Int → ByteArray → Bool → Int → Bool → Int → Option (Bool)
  | 0, _, _, _, _, _, _, _, _, _, _, _, _, _, _, _ => none
  | k + 1, x0, x1, x2, x3, x4, x5, x6, x7, x8, x9, x11, x97, x355000, x355001, x355002 => if x97 = true then (some true) else ((impl_HeardBy.f k x0 x1 x2).bind fun bt355 => ((spec_HeardBy.f k x0 x1 x2).bind fun bt359 => ((impl_TimeAllHear.f k x0 x1).bind fun bt363 => ((spec_TimeAllHear.f k x0 x1).bind fun bt365 => (if (bt355.2 != bt359.2) = true then (some false) else ((laws_vSame.f k bt355.1 bt359.1).bind fun t367 => (if t367 = true then (if (bt363.2 != bt365.2) = true then (some false) else (if bt363.1 = bt365.1 then ((impl_AreSignals.f k x0 x1).bind fun t368 => ((spec_AreSignals.f k x0 x1).bind fun t369 => (if (t368 != t369) = true then (some false) else (if bt355.2 = true then (if bt363.2 = true then ((impl_AreSignals.f k x0 x1).bind fun t370 => (laws_FnSignalsReachOfAll.j1 k x0 x1 x2 x3 x4 x5 x6 x7 x8 x9 x11 bt355.1 bt355.2 bt363.1 (!t370) x355000 x355001 x355002)) else (some false)) else (if bt363.2 = true then ((impl_AreSignals.f k x0 x1).bind fun t371 => (laws_FnSignalsReachOfAll.j1 k x0 x1 x2 x3 x4 x5 x6 x7 x8 x9 x11 bt355.1 bt355.2 bt363.1 (!t371) x355000 x355001 x355002)) else (laws_FnSignalsReachOfAll.j1 k x0 x1 x2 x3 x4 x5 x6 x7 x8 x9 x11 bt355.1 bt355.2 bt363.1 false x355000 x355001 x355002)))))) else (some false))) else (some false))))))))
def laws_FnSignalsReachOfAll.j1 : Nat → Int → List (S25) → Int → Int → List Int → Int → Int → Int → Int → Int → ByteArray → List Int → Bool → Int → Bool → Int → Bool → Int → Option (Bool)
  | 0, _, _, _, _, _, _, _, _, _, _, _, _, _, _, _, _, _, _ => none
  | k + 1, x0, x1, x2, x3, x4, x5, x6, x7, x8, x9, x11, x25, x26, x29, x167, x355000, x355001, x355002 => if x167 = true then (some false) else (if x26 = true then ((laws_vRises.f k x25).bind fun t372 => (if t372 = true then (if (((x25.length : Int) == x0) != (decide (x2 ≥ x29))) = true then (some false) else (laws_FnSignalsReachOfAll.l0 k x0 x1 x2 x3 x4 x5 x6 x7 x8 x9 x11 x25 x1 (x1.length : Int) 0 x355000 x355001 x355002)) else (some false))) else (laws_FnSignalsReachOfAll.j4 k x3 x4 x5 x6 x7 x8 x9 x11 x355000 x355001 x355002))
def laws_FnSignalsReachOfAll.j4 : Nat → Int → List Int → Int → Int → Int → Int → Int → ByteArray → Int → Bool → Int → Option (Bool)
  | 0, _, _, _, _, _, _, _, _, _, _, _ => none
  | k + 1, x3, x4, x5, x6, x7, x8, x9, x11, x355000, x355001, x355002 => (impl_SpreadTimes.f k x3 x4).bind fun bt382 => ((spec_SpreadTimes.f k x3 x4).bind fun bt386 => ((impl_TimeAllKnow.f k x3 x4).bind fun bt390 => ((spec_TimeAllKnow.f k x3 x4).bind fun bt392 => ((impl_BestStarts.f k x5 x6).bind fun bt394 => ((spec_BestStarts.f k x5 x6).bind fun bt398 => ((impl_LeastTimeWith.f k x5 x6).bind fun bt402 => ((spec_LeastTimeWith.f k x5 x6).bind fun bt404 => ((impl_WaitsFor.f k x7 x8).bind fun bt406 => ((spec_WaitsFor.f k x7 x8).bind fun bt410 => ((impl_MiddleMeeting.f k x9).bind fun bt414 => ((spec_MiddleMeeting.f k x9).bind fun bt417 => ((impl_SignalText.f x355000 x355001 x355002).bind fun bt420 => ((spec_SignalText.f k x355000 x355001 x355002).bind fun bt422 => ((impl_ParseSignal.f x11).bind fun bt424 => ((spec_ParseSignal.f k x11).bind fun bt429 => (if (bt382.2 != bt386.2) = true then (some false) else ((laws_vSame.f k bt382.1 bt386.1).bind fun t434 => (if t434 = true then (if (bt390.2 != bt392.2) = true then (some false) else (if bt390.1 = bt392.1 then (if (bt394.2 != bt398.2) = true then (some false) else ((laws_vSame.f k bt394.1 bt398.1).bind fun t435 => (if t435 = true then (if (bt402.2 != bt404.2) = true then (some false) else (if bt402.1 = bt404.1 then (if (bt406.2 != bt410.2) = true then (some false) else ((laws_vSame.f k bt406.1 bt410.1).bind fun t436 => (if t436 = true then (if (bt414.2.2 != bt417.2.2) = true then (some false) else (if bt414.1 = bt417.1 then (if bt414.2.1 = bt417.2.1 then (if (bt420.2 != bt422.2) = true then (some false) else (if bt420.1.toList = bt422.1.toList then (if (bt424.2.2.2 != bt429.2.2.2) = true then (some false) else (if (!(bt424.1 == bt429.1) || (!(bt424.2.1 == bt429.2.1) || (!(bt424.2.2.1 == bt429.2.2.1)))) = true then (some false) else (if (bt390.2 != bt382.2) = true then (some false) else (if bt394.2 = true then (laws_FnSignalsReachOfAll.j5 k x3 x4 x5 x6 x7 x8 x9 x11 bt382.1 bt382.2 bt390.1 bt394.1 bt394.2 bt402.1 bt406.1 bt406.2 bt414.1 bt414.2.1 bt414.2.2 bt420.1 bt420.2 bt424.2.2.2 (!bt402.2) x355000 x355001 x355002 bt424.1 bt424.2.1 bt424.2.2.1) else (laws_FnSignalsReachOfAll.j5 k x3 x4 x5 x6 x7 x8 x9 x11 bt382.1 bt382.2 bt390.1 bt394.1 bt394.2 bt402.1 bt406.1 bt406.2 bt414.1 bt414.2.1 bt414.2.2 bt420.1 bt420.2 bt424.2.2.2 false x355000 x355001 x355002 bt424.1 bt424.2.1 bt424.2.2.1))))) else (some false))) else (some false)) else (some false))) else (some false)))) else (some false))) else (some false)))) else (some false))) else (some false)))))))))))))))))))
def laws_FnSignalsReachOfAll.j5 : Nat → Int → List Int → Int → Int → Int → Int → Int → ByteArray → List Int → Bool → Int → List Int → Bool → Int → List Int → Bool → Int → Int → Bool → ByteArray → Bool → Bool → Bool → Int → Bool → Int → Int → Bool → Int → Option (Bool)
  | 0, _, _, _, _, _, _, _, _, _, _, _, _, _, _, _, _, _, _, _, _, _, _, _, _, _, _, _, _, _ => none
  | k + 1, x3, x4, x5, x6, x7, x8, x9, x11, x39, x40, x43, x47, x48, x51, x55, x56, x59, x60, x61, x65, x66, x70, x413, x355000, x355001, x355002, x429000, x429001, x429002 => if x413 = true then (some false) else (if x40 = true then (if (x39.length : Int) = x3 then ((laws_vMost.f k x39).bind fun t437 => (if t437 = x43 then (laws_FnSignalsReachOfAll.l2 k x4 x5 x6 x7 x8 x9 x11 x39 x47 x48 x51 x55 x56 x59 x60 x61 x65 x66 x70 x39 (x39.length : Int) 0 x355000 x355001 x355002 x429000 x429001 x429002) else (some false))) else (some false)) else (laws_FnSignalsReachOfAll.j7 k x5 x6 x7 x8 x9 x11 x47 x48 x51 x55 x56 x59 x60 x61 x65 x66 x70 x355000 x355001 x355002 x429000 x429001 x429002))
def laws_FnSignalsReachOfAll.j7 : Nat → Int → Int → Int → Int → Int → ByteArray → List Int → Bool → Int → List Int → Bool → Int → Int → Bool → ByteArray → Bool → Bool → Int → Bool → Int → Int → Bool → Int → Option (Bool)
  | 0, _, _, _, _, _, _, _, _, _, _, _, _, _, _, _, _, _, _, _, _, _, _, _ => none
  | k + 1, x5, x6, x7, x8, x9, x11, x47, x48, x51, x55, x56, x59, x60, x61, x65, x66, x70, x355000, x355001, x355002, x429000, x429001, x429002 => if x48 = true then ((impl_TimeAllKnow.f k x5 x47).bind fun bt442 => (if (x47.length : Int) = x6 then (if bt442.2 = true then (if bt442.1 = x51 then (laws_FnSignalsReachOfAll.j8 k x7 x8 x9 x11 x55 x56 x59 x60 x61 x65 x66 x70 x355000 x355001 x355002 x429000 x429001 x429002) else (some false)) else (some false)) else (some false))) else (laws_FnSignalsReachOfAll.j8 k x7 x8 x9 x11 x55 x56 x59 x60 x61 x65 x66 x70 x355000 x355001 x355002 x429000 x429001 x429002)
def laws_FnSignalsReachOfAll.j8 : Nat → Int → Int → Int → ByteArray → List Int → Bool → Int → Int → Bool → ByteArray → Bool → Bool → Int → Bool → Int → Int → Bool → Int → Option (Bool)
  | 0, _, _, _, _, _, _, _, _, _, _, _, _, _, _, _, _, _, _ => none
  | k + 1, x7, x8, x9, x11, x55, x56, x59, x60, x61, x65, x66, x70, x355000, x355001, x355002, x429000, x429001, x429002 => if x56 = true then ((impl_SpreadTimes.f k x7 (([x8] : List Int))).bind fun bt447 => (if bt447.2 = true then (if (x55.length : Int) = x7 then (if 0 ≤ x8 then (if x8 < (x55.length : Int) then ((laws_vMost.f k x55).bind fun t452 => (if (rd x55 x8) = t452 then (laws_FnSignalsReachOfAll.l3 k x8 x9 x11 x55 x59 x60 x61 x65 x66 x70 bt447.1 x55 (x55.length : Int) 0 x355000 x355001 x355002 x429000 x429001 x429002) else (some false))) else (none)) else (none)) else (some false)) else (some false))) else (laws_FnSignalsReachOfAll.j10 k x9 x11 x59 x60 x61 x65 x66 x70 x355000 x355001 x355002 x429000 x429001 x429002)
def laws_FnSignalsReachOfAll.j10 : Nat → Int → ByteArray → Int → Int → Bool → ByteArray → Bool → Bool → Int → Bool → Int → Int → Bool → Int → Option (Bool)
  | 0, _, _, _, _, _, _, _, _, _, _, _, _, _, _ => none
  | k + 1, x9, x11, x59, x60, x61, x65, x66, x70, x355000, x355001, x355002, x429000, x429001, x429002 => if x61 = true then (laws_FnSignalsReachOfAll.j11 k x9 x11 x59 x60 x65 x66 x70 ((Int.tmod x9 2) == 1) x355000 x355001 x355002 x429000 x429001 x429002) else (laws_FnSignalsReachOfAll.j11 k x9 x11 x59 x60 x65 x66 x70 false x355000 x355001 x355002 x429000 x429001 x429002)
def laws_FnSignalsReachOfAll.j11 : Nat → Int → ByteArray → Int → Int → ByteArray → Bool → Bool → Bool → Int → Bool → Int → Int → Bool → Int → Option (Bool)
  | 0, _, _, _, _, _, _, _, _, _, _, _, _, _, _ => none
  | k + 1, x9, x11, x59, x60, x65, x66, x70, x540, x355000, x355001, x355002, x429000, x429001, x429002 => if x540 = true then (if (wrap64 (2 * x60)) = (wrap64 (x9 - 1)) then (if x59 = (wrap64 (3 * x60)) then (laws_FnSignalsReachOfAll.j12 k x11 x65 x66 x70 x355000 x355001 x355002 x429000 x429001 x429002) else (some false)) else (some false)) else (laws_FnSignalsReachOfAll.j12 k x11 x65 x66 x70 x355000 x355001 x355002 x429000 x429001 x429002)
def laws_FnSignalsReachOfAll.j12 : Nat → ByteArray → ByteArray → Bool → Bool → Int → Bool → Int → Int → Bool → Int → Option (Bool)
  | 0, _, _, _, _, _, _, _, _, _, _ => none
  | k + 1, x11, x65, x66, x70, x355000, x355001, x355002, x429000, x429001, x429002 => if x66 = true then ((impl_ParseSignal.f x65).bind fun bt456 => (if bt456.2.2.2 = true then (if (!(bt456.1 == x355000) || (!(bt456.2.1 == x355001) || (!(bt456.2.2.1 == x355002)))) = true then (some false) else (if x70 = true then ((impl_SignalText.f x429000 x429001 x429002).bind fun bt461 => (if bt461.2 = true then (some (bt461.1.toList == x11.toList)) else (some false))) else (some true))) else (some false))) else (if x70 = true then ((impl_SignalText.f x429000 x429001 x429002).bind fun bt463 => (if bt463.2 = true then (some (bt463.1.toList == x11.toList)) else (some false))) else (some true))
def laws_FnSignalsReachOfAll.l3 : Nat → Int → Int → ByteArray → List Int → Int → Int → Bool → ByteArray → Bool → Bool → List Int → List Int → Int → Int → Int → Bool → Int → Int → Bool → Int → Option (Bool)
  | 0, _, _, _, _, _, _, _, _, _, _, _, _, _, _, _, _, _, _, _, _ => none
  | k + 1, x8, x9, x11, x55, x59, x60, x61, x65, x66, x70, x77, x512, x513, x514, x355000, x355001, x355002, x429000, x429001, x429002 => if x514 < x513 then (if 0 ≤ x514 then (if x514 < (x512.length : Int) then (if (rd x512 x514) < 0 then (some false) else (if x514 < (x77.length : Int) then (if 0 ≤ x8 then (if x8 < (x55.length : Int) then (if (wrap64 ((rd x512 x514) + (rd x77 x514))) = (rd x55 x8) then (laws_FnSignalsReachOfAll.l3 k x8 x9 x11 x55 x59 x60 x61 x65 x66 x70 x77 x512 x513 (wrap64 (x514 + 1)) x355000 x355001 x355002 x429000 x429001 x429002) else (some false)) else (none)) else (none)) else (none))) else (none)) else (none)) else (laws_FnSignalsReachOfAll.j10 k x9 x11 x59 x60 x61 x65 x66 x70 x355000 x355001 x355002 x429000 x429001 x429002)
def laws_FnSignalsReachOfAll.l2 : Nat → List Int → Int → Int → Int → Int → Int → ByteArray → List Int → List Int → Bool → Int → List Int → Bool → Int → Int → Bool → ByteArray → Bool → Bool → List Int → Int → Int → Int → Bool → Int → Int → Bool → Int → Option (Bool)
  | 0, _, _, _, _, _, _, _, _, _, _, _, _, _, _, _, _, _, _, _, _, _, _, _, _, _, _, _, _ => none
  | k + 1, x4, x5, x6, x7, x8, x9, x11, x39, x47, x48, x51, x55, x56, x59, x60, x61, x65, x66, x70, x425, x426, x427, x355000, x355001, x355002, x429000, x429001, x429002 => if x427 < x426 then (if 0 ≤ x427 then (if x427 < (x425.length : Int) then (if (rd x425 x427) < 0 then (some false) else ((laws_vHas.f k x4 x427).bind fun t439 => (if (((rd x425 x427) == 0) != t439) = true then (some false) else (if x427 > 0 then (if 0 ≤ (wrap64 (x427 - 1)) then (if (wrap64 (x427 - 1)) < (x39.length : Int) then (if (wrap64 ((rd x425 x427) - (rd x39 (wrap64 (x427 - 1))))) > 1 then (some false) else (if (wrap64 ((rd x39 (wrap64 (x427 - 1))) - (rd x425 x427))) > 1 then (some false) else (laws_FnSignalsReachOfAll.l2 k x4 x5 x6 x7 x8 x9 x11 x39 x47 x48 x51 x55 x56 x59 x60 x61 x65 x66 x70 x425 x426 (wrap64 (x427 + 1)) x355000 x355001 x355002 x429000 x429001 x429002))) else (none)) else (none)) else (laws_FnSignalsReachOfAll.l2 k x4 x5 x6 x7 x8 x9 x11 x39 x47 x48 x51 x55 x56 x59 x60 x61 x65 x66 x70 x425 x426 (wrap64 (x427 + 1)) x355000 x355001 x355002 x429000 x429001 x429002))))) else (none)) else (none)) else (laws_FnSignalsReachOfAll.j7 k x5 x6 x7 x8 x9 x11 x47 x48 x51 x55 x56 x59 x60 x61 x65 x66 x70 x355000 x355001 x355002 x429000 x429001 x429002)
def laws_FnSignalsReachOfAll.l0 : Nat → Int → List (S25) → Int → Int → List Int → Int → Int → Int → Int → Int → ByteArray → List Int → List (S25) → Int → Int → Int → Bool → Int → Option (Bool)
  | 0, _, _, _, _, _, _, _, _, _, _, _, _, _, _, _, _, _, _ => none
  | k + 1, x0, x1, x2, x3, x4, x5, x6, x7, x8, x9, x11, x25, x182, x183, x184, x355000, x355001, x355002 => if x184 < x183 then (if 0 ≤ x184 then (if x184 < (x182.length : Int) then ((laws_vHas.f k x25 ((rd_T25 x182 x184).f0)).bind fun t375 => (if t375 = true then (laws_FnSignalsReachOfAll.l0 k x0 x1 x2 x3 x4 x5 x6 x7 x8 x9 x11 x25 x182 x183 (wrap64 (x184 + 1)) x355000 x355001 x355002) else (some false))) else (none)) else (none)) else (if x2 > 0 then ((impl_HeardBy.f k x0 x1 (wrap64 (x2 - 1))).bind fun bt376 => (if bt376.2 = true then (if (bt376.1.length : Int) > (x25.length : Int) then (some false) else (laws_FnSignalsReachOfAll.l1 k x3 x4 x5 x6 x7 x8 x9 x11 x25 bt376.1 (bt376.1.length : Int) 0 x355000 x355001 x355002)) else (some false))) else (laws_FnSignalsReachOfAll.j4 k x3 x4 x5 x6 x7 x8 x9 x11 x355000 x355001 x355002))
def laws_FnSignalsReachOfAll.l1 : Nat → Int → List Int → Int → Int → Int → Int → Int → ByteArray → List Int → List Int → Int → Int → Int → Bool → Int → Option (Bool)
  | 0, _, _, _, _, _, _, _, _, _, _, _, _, _, _, _ => none
  | k + 1, x3, x4, x5, x6, x7, x8, x9, x11, x25, x213, x214, x215, x355000, x355001, x355002 => if x215 < x214 then (if 0 ≤ x215 then (if x215 < (x213.length : Int) then ((laws_vHas.f k x25 (rd x213 x215)).bind fun t381 => (if t381 = true then (laws_FnSignalsReachOfAll.l1 k x3 x4 x5 x6 x7 x8 x9 x11 x25 x213 x214 (wrap64 (x215 + 1)) x355000 x355001 x355002) else (some false))) else (none)) else (none)) else (laws_FnSignalsReachOfAll.j4 k x3 x4 x5 x6 x7 x8 x9 x11 x355000 x355001 x355002)
end
def laws_FnSignalsReachOfAll.f (k : Nat) (a0 : Int) (l1 : List (S25)) (a2 : Int) (a3 : Int) (l4 : List Int) (a5 : Int) (a6 : Int) (a7 : Int) (a8 : Int) (a9 : Int) (a10_0 : Int) (a10_1 : Bool) (a10_2 : Int) (a11 : ByteArray) : Option (Bool) := if (l1.length : Int) > 10000 then (laws_FnSignalsReachOfAll.j0 k a0 l1 a2 a3 l4 a5 a6 a7 a8 a9 a11 true a10_0 a10_1 a10_2) else (if (l4.length : Int) > 10000 then (laws_FnSignalsReachOfAll.j0 k a0 l1 a2 a3 l4 a5 a6 a7 a8 a9 a11 true a10_0 a10_1 a10_2) else (laws_FnSignalsReachOfAll.j0 k a0 l1 a2 a3 l4 a5 a6 a7 a8 a9 a11 (decide ((a11.size : Int) > 1048576)) a10_0 a10_1 a10_2))
theorem laws_FnSignalsReachOfAll.mono_l : ∀ k, (∀ y0 y1 y2 y3 y4 y5 y6 y7 y8 y9 y10 y11 y12 y13 y14, LeO (laws_FnSignalsReachOfAll.j0 k y0 y1 y2 y3 y4 y5 y6 y7 y8 y9 y10 y11 y12 y13 y14) (laws_FnSignalsReachOfAll.j0 (k + 1) y0 y1 y2 y3 y4 y5 y6 y7 y8 y9 y10 y11 y12 y13 y14)) ∧ (∀ y0 y1 y2 y3 y4 y5 y6 y7 y8 y9 y10 y11 y12 y13 y14 y15 y16 y17, LeO (laws_FnSignalsReachOfAll.j1 k y0 y1 y2 y3 y4 y5 y6 y7 y8 y9 y10 y11 y12 y13 y14 y15 y16 y17) (laws_FnSignalsReachOfAll.j1 (k + 1) y0 y1 y2 y3 y4 y5 y6 y7 y8 y9 y10 y11 y12 y13 y14 y15 y16 y17)) ∧ (∀ y0 y1 y2 y3 y4 y5 y6 y7 y8 y9 y10, LeO (laws_FnSignalsReachOfAll.j4 k y0 y1 y2 y3 y4 y5 y6 y7 y8 y9 y10) (laws_FnSignalsReachOfAll.j4 (k + 1) y0 y1 y2 y3 y4 y5 y6 y7 y8 y9 y10)) ∧ (∀ y0 y1 y2 y3 y4 y5 y6 y7 y8 y9 y10 y11 y12 y13 y14 y15 y16 y17 y18 y19 y20 y21 y22 y23 y24 y25 y26 y27 y28, LeO (laws_FnSignalsReachOfAll.j5 k y0 y1 y2 y3 y4 y5 y6 y7 y8 y9 y10 y11 y12 y13 y14 y15 y16 y17 y18 y19 y20 y21 y22 y23 y24 y25 y26 y27 y28) (laws_FnSignalsReachOfAll.j5 (k + 1) y0 y1 y2 y3 y4 y5 y6 y7 y8 y9 y10 y11 y12 y13 y14 y15 y16 y17 y18 y19 y20 y21 y22 y23 y24 y25 y26 y27 y28)) ∧ (∀ y0 y1 y2 y3 y4 y5 y6 y7 y8 y9 y10 y11 y12 y13 y14 y15 y16 y17 y18 y19 y20 y21 y22, LeO (laws_FnSignalsReachOfAll.j7 k y0 y1 y2 y3 y4 y5 y6 y7 y8 y9 y10 y11 y12 y13 y14 y15 y16 y17 y18 y19 y20 y21 y22) (laws_FnSignalsReachOfAll.j7 (k + 1) y0 y1 y2 y3 y4 y5 y6 y7 y8 y9 y10 y11 y12 y13 y14 y15 y16 y17 y18 y19 y20 y21 y22)) ∧ (∀ y0 y1 y2 y3 y4 y5 y6 y7 y8 y9 y10 y11 y12 y13 y14 y15 y16 y17, LeO (laws_FnSignalsReachOfAll.j8 k y0 y1 y2 y3 y4 y5 y6 y7 y8 y9 y10 y11 y12 y13 y14 y15 y16 y17) (laws_FnSignalsReachOfAll.j8 (k + 1) y0 y1 y2 y3 y4 y5 y6 y7 y8 y9 y10 y11 y12 y13 y14 y15 y16 y17)) ∧ (∀ y0 y1 y2 y3 y4 y5 y6 y7 y8 y9 y10 y11 y12 y13, LeO (laws_FnSignalsReachOfAll.j10 k y0 y1 y2 y3 y4 y5 y6 y7 y8 y9 y10 y11 y12 y13) (laws_FnSignalsReachOfAll.j10 (k + 1) y0 y1 y2 y3 y4 y5 y6 y7 y8 y9 y10 y11 y12 y13)) ∧ (∀ y0 y1 y2 y3 y4 y5 y6 y7 y8 y9 y10 y11 y12 y13, LeO (laws_FnSignalsReachOfAll.j11 k y0 y1 y2 y3 y4 y5 y6 y7 y8 y9 y10 y11 y12 y13) (laws_FnSignalsReachOfAll.j11 (k + 1) y0 y1 y2 y3 y4 y5 y6 y7 y8 y9 y10 y11 y12 y13)) ∧ (∀ y0 y1 y2 y3 y4 y5 y6 y7 y8 y9, LeO (laws_FnSignalsReachOfAll.j12 k y0 y1 y2 y3 y4 y5 y6 y7 y8 y9) (laws_FnSignalsReachOfAll.j12 (k + 1) y0 y1 y2 y3 y4 y5 y6 y7 y8 y9)) ∧ (∀ y0 y1 y2 y3 y4 y5 y6 y7 y8 y9 y10 y11 y12 y13 y14 y15 y16 y17 y18 y19, LeO (laws_FnSignalsReachOfAll.l3 k y0 y1 y2 y3 y4 y5 y6 y7 y8 y9 y10 y11 y12 y13 y14 y15 y16 y17 y18 y19) (laws_FnSignalsReachOfAll.l3 (k + 1) y0 y1 y2 y3 y4 y5 y6 y7 y8 y9 y10 y11 y12 y13 y14 y15 y16 y17 y18 y19)) ∧ (∀ y0 y1 y2 y3 y4 y5 y6 y7 y8 y9 y10 y11 y12 y13 y14 y15 y16 y17 y18 y19 y20 y21 y22 y23 y24 y25 y26 y27, LeO (laws_FnSignalsReachOfAll.l2 k y0 y1 y2 y3 y4 y5 y6 y7 y8 y9 y10 y11 y12 y13 y14 y15 y16 y17 y18 y19 y20 y21 y22 y23 y24 y25 y26 y27) (laws_FnSignalsReachOfAll.l2 (k + 1) y0 y1 y2 y3 y4 y5 y6 y7 y8 y9 y10 y11 y12 y13 y14 y15 y16 y17 y18 y19 y20 y21 y22 y23 y24 y25 y26 y27)) ∧ (∀ y0 y1 y2 y3 y4 y5 y6 y7 y8 y9 y10 y11 y12 y13 y14 y15 y16 y17, LeO (laws_FnSignalsReachOfAll.l0 k y0 y1 y2 y3 y4 y5 y6 y7 y8 y9 y10 y11 y12 y13 y14 y15 y16 y17) (laws_FnSignalsReachOfAll.l0 (k + 1) y0 y1 y2 y3 y4 y5 y6 y7 y8 y9 y10 y11 y12 y13 y14 y15 y16 y17)) ∧ (∀ y0 y1 y2 y3 y4 y5 y6 y7 y8 y9 y10 y11 y12 y13 y14, LeO (laws_FnSignalsReachOfAll.l1 k y0 y1 y2 y3 y4 y5 y6 y7 y8 y9 y10 y11 y12 y13 y14) (laws_FnSignalsReachOfAll.l1 (k + 1) y0 y1 y2 y3 y4 y5 y6 y7 y8 y9 y10 y11 y12 y13 y14))
  | 0 => ⟨fun _ _ _ _ _ _ _ _ _ _ _ _ _ _ _ r h => by simp [laws_FnSignalsReachOfAll.j0] at h, fun _ _ _ _ _ _ _ _ _ _ _ _ _ _ _ _ _ _ r h => by simp [laws_FnSignalsReachOfAll.j1] at h, fun _ _ _ _ _ _ _ _ _ _ _ r h => by simp [laws_FnSignalsReachOfAll.j4] at h, fun _ _ _ _ _ _ _ _ _ _ _ _ _ _ _ _ _ _ _ _ _ _ _ _ _ _ _ _ _ r h => by simp [laws_FnSignalsReachOfAll.j5] at h, fun _ _ _ _ _ _ _ _ _ _ _ _ _ _ _ _ _ _ _ _ _ _ _ r h => by simp [laws_FnSignalsReachOfAll.j7] at h, fun _ _ _ _ _ _ _ _ _ _ _ _ _ _ _ _ _ _ r h => by simp [laws_FnSignalsReachOfAll.j8] at h, fun _ _ _ _ _ _ _ _ _ _ _ _ _ _ r h => by simp [laws_FnSignalsReachOfAll.j10] at h, fun _ _ _ _ _ _ _ _ _ _ _ _ _ _ r h => by simp [laws_FnSignalsReachOfAll.j11] at h, fun _ _ _ _ _ _ _ _ _ _ r h => by simp [laws_FnSignalsReachOfAll.j12] at h, fun _ _ _ _ _ _ _ _ _ _ _ _ _ _ _ _ _ _ _ _ r h => by simp [laws_FnSignalsReachOfAll.l3] at h, fun _ _ _ _ _ _ _ _ _ _ _ _ _ _ _ _ _ _ _ _ _ _ _ _ _ _ _ _ r h => by simp [laws_FnSignalsReachOfAll.l2] at h, fun _ _ _ _ _ _ _ _ _ _ _ _ _ _ _ _ _ _ r h => by simp [laws_FnSignalsReachOfAll.l0] at h, fun _ _ _ _ _ _ _ _ _ _ _ _ _ _ _ r h => by simp [laws_FnSignalsReachOfAll.l1] at h⟩
  | k + 1 => by
    obtain ⟨ih0, ih1, ih2, ih3, ih4, ih5, ih6, ih7, ih8, ih9, ih10, ih11, ih12⟩ := laws_FnSignalsReachOfAll.mono_l k
    refine ⟨?_, ?_, ?_, ?_, ?_, ?_, ?_, ?_, ?_, ?_, ?_, ?_, ?_⟩
    · intro y0 y1 y2 y3 y4 y5 y6 y7 y8 y9 y10 y11 y12 y13 y14
      unfold laws_FnSignalsReachOfAll.j0
      repeat' first
      | (with_reducible exact ih0 _ _ _ _ _ _ _ _ _ _ _ _ _ _ _)
      | (with_reducible exact ih1 _ _ _ _ _ _ _ _ _ _ _ _ _ _ _ _ _ _)
      | (with_reducible exact ih2 _ _ _ _ _ _ _ _ _ _ _)
      | (with_reducible exact ih3 _ _ _ _ _ _ _ _ _ _ _ _ _ _ _ _ _ _ _ _ _ _ _ _ _ _ _ _ _)
      | (with_reducible exact ih4 _ _ _ _ _ _ _ _ _ _ _ _ _ _ _ _ _ _ _ _ _ _ _)
      | (with_reducible exact ih5 _ _ _ _ _ _ _ _ _ _ _ _ _ _ _ _ _ _)
      | (with_reducible exact ih6 _ _ _ _ _ _ _ _ _ _ _ _ _ _)
      | (with_reducible exact ih7 _ _ _ _ _ _ _ _ _ _ _ _ _ _)
      | (with_reducible exact ih8 _ _ _ _ _ _ _ _ _ _)
      | (with_reducible exact ih9 _ _ _ _ _ _ _ _ _ _ _ _ _ _ _ _ _ _ _ _)
      | (with_reducible exact ih10 _ _ _ _ _ _ _ _ _ _ _ _ _ _ _ _ _ _ _ _ _ _ _ _ _ _ _ _)
      | (with_reducible exact ih11 _ _ _ _ _ _ _ _ _ _ _ _ _ _ _ _ _ _)
      | (with_reducible exact ih12 _ _ _ _ _ _ _ _ _ _ _ _ _ _ _)
      | (with_reducible exact impl_AreSignals.mono _ _ _)
      | (with_reducible exact impl_BestStarts.mono _ _ _)
      | (with_reducible exact impl_HeardBy.mono _ _ _ _)
      | (with_reducible exact impl_LeastTimeWith.mono _ _ _)
      | (with_reducible exact impl_MiddleMeeting.mono _ _)
      | (with_reducible exact impl_SpreadTimes.mono _ _ _)
      | (with_reducible exact impl_TimeAllHear.mono _ _ _)
      | (with_reducible exact impl_TimeAllKnow.mono _ _ _)
      | (with_reducible exact impl_WaitsFor.mono _ _ _)
      | (with_reducible exact laws_vHas.mono _ _ _)
      | (with_reducible exact laws_vMost.mono _ _)
      | (with_reducible exact laws_vRises.mono _ _)
      | (with_reducible exact laws_vSame.mono _ _ _)
      | (with_reducible exact spec_AreSignals.mono _ _ _)
      | (with_reducible exact spec_BestStarts.mono _ _ _)
      | (with_reducible exact spec_HeardBy.mono _ _ _ _)
      | (with_reducible exact spec_LeastTimeWith.mono _ _ _)
      | (with_reducible exact spec_MiddleMeeting.mono _ _)
      | (with_reducible exact spec_ParseSignal.mono _ _)
      | (with_reducible exact spec_SignalText.mono _ _ _ _)
      | (with_reducible exact spec_SpreadTimes.mono _ _ _)
      | (with_reducible exact spec_TimeAllHear.mono _ _ _)
      | (with_reducible exact spec_TimeAllKnow.mono _ _ _)
      | (with_reducible exact spec_WaitsFor.mono _ _ _)
      | (with_reducible exact LeO.refl _)
      | (with_reducible exact LeO.none _)
      | (with_reducible refine LeO.ite ?_ ?_)
      | (with_reducible refine LeO.bind ?_ (fun _ => ?_))
      | exact ih0 _ _ _ _ _ _ _ _ _ _ _ _ _ _ _
      | exact ih1 _ _ _ _ _ _ _ _ _ _ _ _ _ _ _ _ _ _
      | exact ih2 _ _ _ _ _ _ _ _ _ _ _
      | exact ih3 _ _ _ _ _ _ _ _ _ _ _ _ _ _ _ _ _ _ _ _ _ _ _ _ _ _ _ _ _
      | exact ih4 _ _ _ _ _ _ _ _ _ _ _ _ _ _ _ _ _ _ _ _ _ _ _
      | exact ih5 _ _ _ _ _ _ _ _ _ _ _ _ _ _ _ _ _ _
      | exact ih6 _ _ _ _ _ _ _ _ _ _ _ _ _ _
      | exact ih7 _ _ _ _ _ _ _ _ _ _ _ _ _ _
      | exact ih8 _ _ _ _ _ _ _ _ _ _
      | exact ih9 _ _ _ _ _ _ _ _ _ _ _ _ _ _ _ _ _ _ _ _
      | exact ih10 _ _ _ _ _ _ _ _ _ _ _ _ _ _ _ _ _ _ _ _ _ _ _ _ _ _ _ _
      | exact ih11 _ _ _ _ _ _ _ _ _ _ _ _ _ _ _ _ _ _
      | exact ih12 _ _ _ _ _ _ _ _ _ _ _ _ _ _ _
      | exact impl_AreSignals.mono _ _ _
      | exact impl_BestStarts.mono _ _ _
      | exact impl_HeardBy.mono _ _ _ _
      | exact impl_LeastTimeWith.mono _ _ _
      | exact impl_MiddleMeeting.mono _ _
      | exact impl_SpreadTimes.mono _ _ _
      | exact impl_TimeAllHear.mono _ _ _
      | exact impl_TimeAllKnow.mono _ _ _
      | exact impl_WaitsFor.mono _ _ _
      | exact laws_vHas.mono _ _ _
      | exact laws_vMost.mono _ _
      | exact laws_vRises.mono _ _
      | exact laws_vSame.mono _ _ _
      | exact spec_AreSignals.mono _ _ _
      | exact spec_BestStarts.mono _ _ _
      | exact spec_HeardBy.mono _ _ _ _
      | exact spec_LeastTimeWith.mono _ _ _
      | exact spec_MiddleMeeting.mono _ _
      | exact spec_ParseSignal.mono _ _
      | exact spec_SignalText.mono _ _ _ _
      | exact spec_SpreadTimes.mono _ _ _
      | exact spec_TimeAllHear.mono _ _ _
      | exact spec_TimeAllKnow.mono _ _ _
      | exact spec_WaitsFor.mono _ _ _
      | exact LeO.none _
      | refine LeO.ite ?_ ?_
      | refine LeO.bind ?_ (fun _ => ?_)
    · intro y0 y1 y2 y3 y4 y5 y6 y7 y8 y9 y10 y11 y12 y13 y14 y15 y16 y17
      unfold laws_FnSignalsReachOfAll.j1
      repeat' first
      | (with_reducible exact ih0 _ _ _ _ _ _ _ _ _ _ _ _ _ _ _)
      | (with_reducible exact ih1 _ _ _ _ _ _ _ _ _ _ _ _ _ _ _ _ _ _)
      | (with_reducible exact ih2 _ _ _ _ _ _ _ _ _ _ _)
      | (with_reducible exact ih3 _ _ _ _ _ _ _ _ _ _ _ _ _ _ _ _ _ _ _ _ _ _ _ _ _ _ _ _ _)
      | (with_reducible exact ih4 _ _ _ _ _ _ _ _ _ _ _ _ _ _ _ _ _ _ _ _ _ _ _)
      | (with_reducible exact ih5 _ _ _ _ _ _ _ _ _ _ _ _ _ _ _ _ _ _)
      | (with_reducible exact ih6 _ _ _ _ _ _ _ _ _ _ _ _ _ _)
      | (with_reducible exact ih7 _ _ _ _ _ _ _ _ _ _ _ _ _ _)
      | (with_reducible exact ih8 _ _ _ _ _ _ _ _ _ _)
      | (with_reducible exact ih9 _ _ _ _ _ _ _ _ _ _ _ _ _ _ _ _ _ _ _ _)
      | (with_reducible exact ih10 _ _ _ _ _ _ _ _ _ _ _ _ _ _ _ _ _ _ _ _ _ _ _ _ _ _ _ _)
      | (with_reducible exact ih11 _ _ _ _ _ _ _ _ _ _ _ _ _ _ _ _ _ _)
      | (with_reducible exact ih12 _ _ _ _ _ _ _ _ _ _ _ _ _ _ _)
      | (with_reducible exact impl_AreSignals.mono _ _ _)
      | (with_reducible exact impl_BestStarts.mono _ _ _)
      | (with_reducible exact impl_HeardBy.mono _ _ _ _)
      | (with_reducible exact impl_LeastTimeWith.mono _ _ _)
      | (with_reducible exact impl_MiddleMeeting.mono _ _)
      | (with_reducible exact impl_SpreadTimes.mono _ _ _)
      | (with_reducible exact impl_TimeAllHear.mono _ _ _)
      | (with_reducible exact impl_TimeAllKnow.mono _ _ _)
      | (with_reducible exact impl_WaitsFor.mono _ _ _)
      | (with_reducible exact laws_vHas.mono _ _ _)
      | (with_reducible exact laws_vMost.mono _ _)
      | (with_reducible exact laws_vRises.mono _ _)
      | (with_reducible exact laws_vSame.mono _ _ _)
      | (with_reducible exact spec_AreSignals.mono _ _ _)
      | (with_reducible exact spec_BestStarts.mono _ _ _)
      | (with_reducible exact spec_HeardBy.mono _ _ _ _)
      | (with_reducible exact spec_LeastTimeWith.mono _ _ _)
      | (with_reducible exact spec_MiddleMeeting.mono _ _)
      | (with_reducible exact spec_ParseSignal.mono _ _)
      | (with_reducible exact spec_SignalText.mono _ _ _ _)
      | (with_reducible exact spec_SpreadTimes.mono _ _ _)
      | (with_reducible exact spec_TimeAllHear.mono _ _ _)
      | (with_reducible exact spec_TimeAllKnow.mono _ _ _)
      | (with_reducible exact spec_WaitsFor.mono _ _ _)
      | (with_reducible exact LeO.refl _)
      | (with_reducible exact LeO.none _)
      | (with_reducible refine LeO.ite ?_ ?_)
      | (with_reducible refine LeO.bind ?_ (fun _ => ?_))
      | exact ih0 _ _ _ _ _ _ _ _ _ _ _ _ _ _ _
      | exact ih1 _ _ _ _ _ _ _ _ _ _ _ _ _ _ _ _ _ _
      | exact ih2 _ _ _ _ _ _ _ _ _ _ _
      | exact ih3 _ _ _ _ _ _ _ _ _ _ _ _ _ _ _ _ _ _ _ _ _ _ _ _ _ _ _ _ _
      | exact ih4 _ _ _ _ _ _ _ _ _ _ _ _ _ _ _ _ _ _ _ _ _ _ _
      | exact ih5 _ _ _ _ _ _ _ _ _ _ _ _ _ _ _ _ _ _
      | exact ih6 _ _ _ _ _ _ _ _ _ _ _ _ _ _
      | exact ih7 _ _ _ _ _ _ _ _ _ _ _ _ _ _
      | exact ih8 _ _ _ _ _ _ _ _ _ _
      | exact ih9 _ _ _ _ _ _ _ _ _ _ _ _ _ _ _ _ _ _ _ _
      | exact ih10 _ _ _ _ _ _ _ _ _ _ _ _ _ _ _ _ _ _ _ _ _ _ _ _ _ _ _ _
      | exact ih11 _ _ _ _ _ _ _ _ _ _ _ _ _ _ _ _ _ _
      | exact ih12 _ _ _ _ _ _ _ _ _ _ _ _ _ _ _
      | exact impl_AreSignals.mono _ _ _
      | exact impl_BestStarts.mono _ _ _
      | exact impl_HeardBy.mono _ _ _ _
      | exact impl_LeastTimeWith.mono _ _ _
      | exact impl_MiddleMeeting.mono _ _
      | exact impl_SpreadTimes.mono _ _ _
      | exact impl_TimeAllHear.mono _ _ _
      | exact impl_TimeAllKnow.mono _ _ _
      | exact impl_WaitsFor.mono _ _ _
      | exact laws_vHas.mono _ _ _
      | exact laws_vMost.mono _ _
      | exact laws_vRises.mono _ _
      | exact laws_vSame.mono _ _ _
      | exact spec_AreSignals.mono _ _ _
      | exact spec_BestStarts.mono _ _ _
      | exact spec_HeardBy.mono _ _ _ _
      | exact spec_LeastTimeWith.mono _ _ _
      | exact spec_MiddleMeeting.mono _ _
      | exact spec_ParseSignal.mono _ _
      | exact spec_SignalText.mono _ _ _ _
      | exact spec_SpreadTimes.mono _ _ _
      | exact spec_TimeAllHear.mono _ _ _
      | exact spec_TimeAllKnow.mono _ _ _
      | exact spec_WaitsFor.mono _ _ _
      | exact LeO.none _
      | refine LeO.ite ?_ ?_
      | refine LeO.bind ?_ (fun _ => ?_)
    · intro y0 y1 y2 y3 y4 y5 y6 y7 y8 y9 y10
      unfold laws_FnSignalsReachOfAll.j4
      repeat' first
      | (with_reducible exact ih0 _ _ _ _ _ _ _ _ _ _ _ _ _ _ _)
      | (with_reducible exact ih1 _ _ _ _ _ _ _ _ _ _ _ _ _ _ _ _ _ _)
      | (with_reducible exact ih2 _ _ _ _ _ _ _ _ _ _ _)
      | (with_reducible exact ih3 _ _ _ _ _ _ _ _ _ _ _ _ _ _ _ _ _ _ _ _ _ _ _ _ _ _ _ _ _)
      | (with_reducible exact ih4 _ _ _ _ _ _ _ _ _ _ _ _ _ _ _ _ _ _ _ _ _ _ _)
      | (with_reducible exact ih5 _ _ _ _ _ _ _ _ _ _ _ _ _ _ _ _ _ _)
      | (with_reducible exact ih6 _ _ _ _ _ _ _ _ _ _ _ _ _ _)
      | (with_reducible exact ih7 _ _ _ _ _ _ _ _ _ _ _ _ _ _)
      | (with_reducible exact ih8 _ _ _ _ _ _ _ _ _ _)
      | (with_reducible exact ih9 _ _ _ _ _ _ _ _ _ _ _ _ _ _ _ _ _ _ _ _)
      | (with_reducible exact ih10 _ _ _ _ _ _ _ _ _ _ _ _ _ _ _ _ _ _ _ _ _ _ _ _ _ _ _ _)
      | (with_reducible exact ih11 _ _ _ _ _ _ _ _ _ _ _ _ _ _ _ _ _ _)
      | (with_reducible exact ih12 _ _ _ _ _ _ _ _ _ _ _ _ _ _ _)
      | (with_reducible exact impl_AreSignals.mono _ _ _)
      | (with_reducible exact impl_BestStarts.mono _ _ _)
      | (with_reducible exact impl_HeardBy.mono _ _ _ _)
      | (with_reducible exact impl_LeastTimeWith.mono _ _ _)
      | (with_reducible exact impl_MiddleMeeting.mono _ _)
      | (with_reducible exact impl_SpreadTimes.mono _ _ _)
      | (with_reducible exact impl_TimeAllHear.mono _ _ _)
      | (with_reducible exact impl_TimeAllKnow.mono _ _ _)
      | (with_reducible exact impl_WaitsFor.mono _ _ _)
      | (with_reducible exact laws_vHas.mono _ _ _)
      | (with_reducible exact laws_vMost.mono _ _)
      | (with_reducible exact laws_vRises.mono _ _)
      | (with_reducible exact laws_vSame.mono _ _ _)
      | (with_reducible exact spec_AreSignals.mono _ _ _)
      | (with_reducible exact spec_BestStarts.mono _ _ _)
      | (with_reducible exact spec_HeardBy.mono _ _ _ _)
      | (with_reducible exact spec_LeastTimeWith.mono _ _ _)
      | (with_reducible exact spec_MiddleMeeting.mono _ _)
      | (with_reducible exact spec_ParseSignal.mono _ _)
      | (with_reducible exact spec_SignalText.mono _ _ _ _)
      | (with_reducible exact spec_SpreadTimes.mono _ _ _)
      | (with_reducible exact spec_TimeAllHear.mono _ _ _)
      | (with_reducible exact spec_TimeAllKnow.mono _ _ _)
      | (with_reducible exact spec_WaitsFor.mono _ _ _)
      | (with_reducible exact LeO.refl _)
      | (with_reducible exact LeO.none _)
      | (with_reducible refine LeO.ite ?_ ?_)
      | (with_reducible refine LeO.bind ?_ (fun _ => ?_))
      | exact ih0 _ _ _ _ _ _ _ _ _ _ _ _ _ _ _
      | exact ih1 _ _ _ _ _ _ _ _ _ _ _ _ _ _ _ _ _ _
      | exact ih2 _ _ _ _ _ _ _ _ _ _ _
      | exact ih3 _ _ _ _ _ _ _ _ _ _ _ _ _ _ _ _ _ _ _ _ _ _ _ _ _ _ _ _ _
      | exact ih4 _ _ _ _ _ _ _ _ _ _ _ _ _ _ _ _ _ _ _ _ _ _ _
      | exact ih5 _ _ _ _ _ _ _ _ _ _ _ _ _ _ _ _ _ _
      | exact ih6 _ _ _ _ _ _ _ _ _ _ _ _ _ _
      | exact ih7 _ _ _ _ _ _ _ _ _ _ _ _ _ _
      | exact ih8 _ _ _ _ _ _ _ _ _ _
      | exact ih9 _ _ _ _ _ _ _ _ _ _ _ _ _ _ _ _ _ _ _ _
      | exact ih10 _ _ _ _ _ _ _ _ _ _ _ _ _ _ _ _ _ _ _ _ _ _ _ _ _ _ _ _
      | exact ih11 _ _ _ _ _ _ _ _ _ _ _ _ _ _ _ _ _ _
      | exact ih12 _ _ _ _ _ _ _ _ _ _ _ _ _ _ _
      | exact impl_AreSignals.mono _ _ _
      | exact impl_BestStarts.mono _ _ _
      | exact impl_HeardBy.mono _ _ _ _
      | exact impl_LeastTimeWith.mono _ _ _
      | exact impl_MiddleMeeting.mono _ _
      | exact impl_SpreadTimes.mono _ _ _
      | exact impl_TimeAllHear.mono _ _ _
      | exact impl_TimeAllKnow.mono _ _ _
      | exact impl_WaitsFor.mono _ _ _
      | exact laws_vHas.mono _ _ _
      | exact laws_vMost.mono _ _
      | exact laws_vRises.mono _ _
      | exact laws_vSame.mono _ _ _
      | exact spec_AreSignals.mono _ _ _
      | exact spec_BestStarts.mono _ _ _
      | exact spec_HeardBy.mono _ _ _ _
      | exact spec_LeastTimeWith.mono _ _ _
      | exact spec_MiddleMeeting.mono _ _
      | exact spec_ParseSignal.mono _ _
      | exact spec_SignalText.mono _ _ _ _
      | exact spec_SpreadTimes.mono _ _ _
      | exact spec_TimeAllHear.mono _ _ _
      | exact spec_TimeAllKnow.mono _ _ _
      | exact spec_WaitsFor.mono _ _ _
      | exact LeO.none _
      | refine LeO.ite ?_ ?_
      | refine LeO.bind ?_ (fun _ => ?_)
    · intro y0 y1 y2 y3 y4 y5 y6 y7 y8 y9 y10 y11 y12 y13 y14 y15 y16 y17 y18 y19 y20 y21 y22 y23 y24 y25 y26 y27 y28
      unfold laws_FnSignalsReachOfAll.j5
      repeat' first
      | (with_reducible exact ih0 _ _ _ _ _ _ _ _ _ _ _ _ _ _ _)
      | (with_reducible exact ih1 _ _ _ _ _ _ _ _ _ _ _ _ _ _ _ _ _ _)
      | (with_reducible exact ih2 _ _ _ _ _ _ _ _ _ _ _)
      | (with_reducible exact ih3 _ _ _ _ _ _ _ _ _ _ _ _ _ _ _ _ _ _ _ _ _ _ _ _ _ _ _ _ _)
      | (with_reducible exact ih4 _ _ _ _ _ _ _ _ _ _ _ _ _ _ _ _ _ _ _ _ _ _ _)
      | (with_reducible exact ih5 _ _ _ _ _ _ _ _ _ _ _ _ _ _ _ _ _ _)
      | (with_reducible exact ih6 _ _ _ _ _ _ _ _ _ _ _ _ _ _)
      | (with_reducible exact ih7 _ _ _ _ _ _ _ _ _ _ _ _ _ _)
      | (with_reducible exact ih8 _ _ _ _ _ _ _ _ _ _)
      | (with_reducible exact ih9 _ _ _ _ _ _ _ _ _ _ _ _ _ _ _ _ _ _ _ _)
      | (with_reducible exact ih10 _ _ _ _ _ _ _ _ _ _ _ _ _ _ _ _ _ _ _ _ _ _ _ _ _ _ _ _)
      | (with_reducible exact ih11 _ _ _ _ _ _ _ _ _ _ _ _ _ _ _ _ _ _)
      | (with_reducible exact ih12 _ _ _ _ _ _ _ _ _ _ _ _ _ _ _)
      | (with_reducible exact impl_AreSignals.mono _ _ _)
      | (with_reducible exact impl_BestStarts.mono _ _ _)
      | (with_reducible exact impl_HeardBy.mono _ _ _ _)
      | (with_reducible exact impl_LeastTimeWith.mono _ _ _)
      | (with_reducible exact impl_MiddleMeeting.mono _ _)
      | (with_reducible exact impl_SpreadTimes.mono _ _ _)
      | (with_reducible exact impl_TimeAllHear.mono _ _ _)
      | (with_reducible exact impl_TimeAllKnow.mono _ _ _)
      | (with_reducible exact impl_WaitsFor.mono _ _ _)
      | (with_reducible exact laws_vHas.mono _ _ _)
      | (with_reducible exact laws_vMost.mono _ _)
      | (with_reducible exact laws_vRises.mono _ _)
      | (with_reducible exact laws_vSame.mono _ _ _)
      | (with_reducible exact spec_AreSignals.mono _ _ _)
      | (with_reducible exact spec_BestStarts.mono _ _ _)
      | (with_reducible exact spec_HeardBy.mono _ _ _ _)
      | (with_reducible exact spec_LeastTimeWith.mono _ _ _)
      | (with_reducible exact spec_MiddleMeeting.mono _ _)
      | (with_reducible exact spec_ParseSignal.mono _ _)
      | (with_reducible exact spec_SignalText.mono _ _ _ _)
      | (with_reducible exact spec_SpreadTimes.mono _ _ _)
      | (with_reducible exact spec_TimeAllHear.mono _ _ _)
      | (with_reducible exact spec_TimeAllKnow.mono _ _ _)
      | (with_reducible exact spec_WaitsFor.mono _ _ _)
      | (with_reducible exact LeO.refl _)
      | (with_reducible exact LeO.none _)
      | (with_reducible refine LeO.ite ?_ ?_)
      | (with_reducible refine LeO.bind ?_ (fun _ => ?_))
      | exact ih0 _ _ _ _ _ _ _ _ _ _ _ _ _ _ _
      | exact ih1 _ _ _ _ _ _ _ _ _ _ _ _ _ _ _ _ _ _
      | exact ih2 _ _ _ _ _ _ _ _ _ _ _
      | exact ih3 _ _ _ _ _ _ _ _ _ _ _ _ _ _ _ _ _ _ _ _ _ _ _ _ _ _ _ _ _
      | exact ih4 _ _ _ _ _ _ _ _ _ _ _ _ _ _ _ _ _ _ _ _ _ _ _
      | exact ih5 _ _ _ _ _ _ _ _ _ _ _ _ _ _ _ _ _ _
      | exact ih6 _ _ _ _ _ _ _ _ _ _ _ _ _ _
      | exact ih7 _ _ _ _ _ _ _ _ _ _ _ _ _ _
      | exact ih8 _ _ _ _ _ _ _ _ _ _
      | exact ih9 _ _ _ _ _ _ _ _ _ _ _ _ _ _ _ _ _ _ _ _
      | exact ih10 _ _ _ _ _ _ _ _ _ _ _ _ _ _ _ _ _ _ _ _ _ _ _ _ _ _ _ _
      | exact ih11 _ _ _ _ _ _ _ _ _ _ _ _ _ _ _ _ _ _
      | exact ih12 _ _ _ _ _ _ _ _ _ _ _ _ _ _ _
      | exact impl_AreSignals.mono _ _ _
      | exact impl_BestStarts.mono _ _ _
      | exact impl_HeardBy.mono _ _ _ _
      | exact impl_LeastTimeWith.mono _ _ _
      | exact impl_MiddleMeeting.mono _ _
      | exact impl_SpreadTimes.mono _ _ _
      | exact impl_TimeAllHear.mono _ _ _
      | exact impl_TimeAllKnow.mono _ _ _
      | exact impl_WaitsFor.mono _ _ _
      | exact laws_vHas.mono _ _ _
      | exact laws_vMost.mono _ _
      | exact laws_vRises.mono _ _
      | exact laws_vSame.mono _ _ _
      | exact spec_AreSignals.mono _ _ _
      | exact spec_BestStarts.mono _ _ _
      | exact spec_HeardBy.mono _ _ _ _
      | exact spec_LeastTimeWith.mono _ _ _
      | exact spec_MiddleMeeting.mono _ _
      | exact spec_ParseSignal.mono _ _
      | exact spec_SignalText.mono _ _ _ _
      | exact spec_SpreadTimes.mono _ _ _
      | exact spec_TimeAllHear.mono _ _ _
      | exact spec_TimeAllKnow.mono _ _ _
      | exact spec_WaitsFor.mono _ _ _
      | exact LeO.none _
      | refine LeO.ite ?_ ?_
      | refine LeO.bind ?_ (fun _ => ?_)
    · intro y0 y1 y2 y3 y4 y5 y6 y7 y8 y9 y10 y11 y12 y13 y14 y15 y16 y17 y18 y19 y20 y21 y22
      unfold laws_FnSignalsReachOfAll.j7
      repeat' first
      | (with_reducible exact ih0 _ _ _ _ _ _ _ _ _ _ _ _ _ _ _)
      | (with_reducible exact ih1 _ _ _ _ _ _ _ _ _ _ _ _ _ _ _ _ _ _)
      | (with_reducible exact ih2 _ _ _ _ _ _ _ _ _ _ _)
      | (with_reducible exact ih3 _ _ _ _ _ _ _ _ _ _ _ _ _ _ _ _ _ _ _ _ _ _ _ _ _ _ _ _ _)
      | (with_reducible exact ih4 _ _ _ _ _ _ _ _ _ _ _ _ _ _ _ _ _ _ _ _ _ _ _)
      | (with_reducible exact ih5 _ _ _ _ _ _ _ _ _ _ _ _ _ _ _ _ _ _)
      | (with_reducible exact ih6 _ _ _ _ _ _ _ _ _ _ _ _ _ _)
      | (with_reducible exact ih7 _ _ _ _ _ _ _ _ _ _ _ _ _ _)
      | (with_reducible exact ih8 _ _ _ _ _ _ _ _ _ _)
      | (with_reducible exact ih9 _ _ _ _ _ _ _ _ _ _ _ _ _ _ _ _ _ _ _ _)
      | (with_reducible exact ih10 _ _ _ _ _ _ _ _ _ _ _ _ _ _ _ _ _ _ _ _ _ _ _ _ _ _ _ _)
      | (with_reducible exact ih11 _ _ _ _ _ _ _ _ _ _ _ _ _ _ _ _ _ _)
      | (with_reducible exact ih12 _ _ _ _ _ _ _ _ _ _ _ _ _ _ _)
      | (with_reducible exact impl_AreSignals.mono _ _ _)
      | (with_reducible exact impl_BestStarts.mono _ _ _)
      | (with_reducible exact impl_HeardBy.mono _ _ _ _)
      | (with_reducible exact impl_LeastTimeWith.mono _ _ _)
      | (with_reducible exact impl_MiddleMeeting.mono _ _)
      | (with_reducible exact impl_SpreadTimes.mono _ _ _)
      | (with_reducible exact impl_TimeAllHear.mono _ _ _)
      | (with_reducible exact impl_TimeAllKnow.mono _ _ _)
      | (with_reducible exact impl_WaitsFor.mono _ _ _)
      | (with_reducible exact laws_vHas.mono _ _ _)
      | (with_reducible exact laws_vMost.mono _ _)
      | (with_reducible exact laws_vRises.mono _ _)
      | (with_reducible exact laws_vSame.mono _ _ _)
      | (with_reducible exact spec_AreSignals.mono _ _ _)
      | (with_reducible exact spec_BestStarts.mono _ _ _)
      | (with_reducible exact spec_HeardBy.mono _ _ _ _)
      | (with_reducible exact spec_LeastTimeWith.mono _ _ _)
      | (with_reducible exact spec_MiddleMeeting.mono _ _)
      | (with_reducible exact spec_ParseSignal.mono _ _)
      | (with_reducible exact spec_SignalText.mono _ _ _ _)
      | (with_reducible exact spec_SpreadTimes.mono _ _ _)
      | (with_reducible exact spec_TimeAllHear.mono _ _ _)
      | (with_reducible exact spec_TimeAllKnow.mono _ _ _)
      | (with_reducible exact spec_WaitsFor.mono _ _ _)
      | (with_reducible exact LeO.refl _)
      | (with_reducible exact LeO.none _)
      | (with_reducible refine LeO.ite ?_ ?_)
      | (with_reducible refine LeO.bind ?_ (fun _ => ?_))
      | exact ih0 _ _ _ _ _ _ _ _ _ _ _ _ _ _ _
      | exact ih1 _ _ _ _ _ _ _ _ _ _ _ _ _ _ _ _ _ _
      | exact ih2 _ _ _ _ _ _ _ _ _ _ _
      | exact ih3 _ _ _ _ _ _ _ _ _ _ _ _ _ _ _ _ _ _ _ _ _ _ _ _ _ _ _ _ _
      | exact ih4 _ _ _ _ _ _ _ _ _ _ _ _ _ _ _ _ _ _ _ _ _ _ _
      | exact ih5 _ _ _ _ _ _ _ _ _ _ _ _ _ _ _ _ _ _
      | exact ih6 _ _ _ _ _ _ _ _ _ _ _ _ _ _
      | exact ih7 _ _ _ _ _ _ _ _ _ _ _ _ _ _
      | exact ih8 _ _ _ _ _ _ _ _ _ _
      | exact ih9 _ _ _ _ _ _ _ _ _ _ _ _ _ _ _ _ _ _ _ _
      | exact ih10 _ _ _ _ _ _ _ _ _ _ _ _ _ _ _ _ _ _ _ _ _ _ _ _ _ _ _ _
      | exact ih11 _ _ _ _ _ _ _ _ _ _ _ _ _ _ _ _ _ _
      | exact ih12 _ _ _ _ _ _ _ _ _ _ _ _ _ _ _
      | exact impl_AreSignals.mono _ _ _
      | exact impl_BestStarts.mono _ _ _
      | exact impl_HeardBy.mono _ _ _ _
      | exact impl_LeastTimeWith.mono _ _ _
      | exact impl_MiddleMeeting.mono _ _
      | exact impl_SpreadTimes.mono _ _ _
      | exact impl_TimeAllHear.mono _ _ _
      | exact impl_TimeAllKnow.mono _ _ _
      | exact impl_WaitsFor.mono _ _ _
      | exact laws_vHas.mono _ _ _
      | exact laws_vMost.mono _ _
      | exact laws_vRises.mono _ _
      | exact laws_vSame.mono _ _ _
      | exact spec_AreSignals.mono _ _ _
      | exact spec_BestStarts.mono _ _ _
      | exact spec_HeardBy.mono _ _ _ _
      | exact spec_LeastTimeWith.mono _ _ _
      | exact spec_MiddleMeeting.mono _ _
      | exact spec_ParseSignal.mono _ _
      | exact spec_SignalText.mono _ _ _ _
      | exact spec_SpreadTimes.mono _ _ _
      | exact spec_TimeAllHear.mono _ _ _
      | exact spec_TimeAllKnow.mono _ _ _
      | exact spec_WaitsFor.mono _ _ _
      | exact LeO.none _
      | refine LeO.ite ?_ ?_
      | refine LeO.bind ?_ (fun _ => ?_)
    · intro y0 y1 y2 y3 y4 y5 y6 y7 y8 y9 y10 y11 y12 y13 y14 y15 y16 y17
      unfold laws_FnSignalsReachOfAll.j8
      repeat' first
      | (with_reducible exact ih0 _ _ _ _ _ _ _ _ _ _ _ _ _ _ _)
      | (with_reducible exact ih1 _ _ _ _ _ _ _ _ _ _ _ _ _ _ _ _ _ _)
      | (with_reducible exact ih2 _ _ _ _ _ _ _ _ _ _ _)
      | (with_reducible exact ih3 _ _ _ _ _ _ _ _ _ _ _ _ _ _ _ _ _ _ _ _ _ _ _ _ _ _ _ _ _)
      | (with_reducible exact ih4 _ _ _ _ _ _ _ _ _ _ _ _ _ _ _ _ _ _ _ _ _ _ _)
      | (with_reducible exact ih5 _ _ _ _ _ _ _ _ _ _ _ _ _ _ _ _ _ _)
      | (with_reducible exact ih6 _ _ _ _ _ _ _ _ _ _ _ _ _ _)
      | (with_reducible exact ih7 _ _ _ _ _ _ _ _ _ _ _ _ _ _)
      | (with_reducible exact ih8 _ _ _ _ _ _ _ _ _ _)
      | (with_reducible exact ih9 _ _ _ _ _ _ _ _ _ _ _ _ _ _ _ _ _ _ _ _)
      | (with_reducible exact ih10 _ _ _ _ _ _ _ _ _ _ _ _ _ _ _ _ _ _ _ _ _ _ _ _ _ _ _ _)
      | (with_reducible exact ih11 _ _ _ _ _ _ _ _ _ _ _ _ _ _ _ _ _ _)
      | (with_reducible exact ih12 _ _ _ _ _ _ _ _ _ _ _ _ _ _ _)
      | (with_reducible exact impl_AreSignals.mono _ _ _)
      | (with_reducible exact impl_BestStarts.mono _ _ _)
      | (with_reducible exact impl_HeardBy.mono _ _ _ _)
      | (with_reducible exact impl_LeastTimeWith.mono _ _ _)
      | (with_reducible exact impl_MiddleMeeting.mono _ _)
      | (with_reducible exact impl_SpreadTimes.mono _ _ _)
      | (with_reducible exact impl_TimeAllHear.mono _ _ _)
      | (with_reducible exact impl_TimeAllKnow.mono _ _ _)
      | (with_reducible exact impl_WaitsFor.mono _ _ _)
      | (with_reducible exact laws_vHas.mono _ _ _)
      | (with_reducible exact laws_vMost.mono _ _)
      | (with_reducible exact laws_vRises.mono _ _)
      | (with_reducible exact laws_vSame.mono _ _ _)
      | (with_reducible exact spec_AreSignals.mono _ _ _)
      | (with_reducible exact spec_BestStarts.mono _ _ _)
      | (with_reducible exact spec_HeardBy.mono _ _ _ _)
      | (with_reducible exact spec_LeastTimeWith.mono _ _ _)
      | (with_reducible exact spec_MiddleMeeting.mono _ _)
      | (with_reducible exact spec_ParseSignal.mono _ _)
      | (with_reducible exact spec_SignalText.mono _ _ _ _)
      | (with_reducible exact spec_SpreadTimes.mono _ _ _)
      | (with_reducible exact spec_TimeAllHear.mono _ _ _)
      | (with_reducible exact spec_TimeAllKnow.mono _ _ _)
      | (with_reducible exact spec_WaitsFor.mono _ _ _)
      | (with_reducible exact LeO.refl _)
      | (with_reducible exact LeO.none _)
      | (with_reducible refine LeO.ite ?_ ?_)
      | (with_reducible refine LeO.bind ?_ (fun _ => ?_))
      | exact ih0 _ _ _ _ _ _ _ _ _ _ _ _ _ _ _
      | exact ih1 _ _ _ _ _ _ _ _ _ _ _ _ _ _ _ _ _ _
      | exact ih2 _ _ _ _ _ _ _ _ _ _ _
      | exact ih3 _ _ _ _ _ _ _ _ _ _ _ _ _ _ _ _ _ _ _ _ _ _ _ _ _ _ _ _ _
      | exact ih4 _ _ _ _ _ _ _ _ _ _ _ _ _ _ _ _ _ _ _ _ _ _ _
      | exact ih5 _ _ _ _ _ _ _ _ _ _ _ _ _ _ _ _ _ _
      | exact ih6 _ _ _ _ _ _ _ _ _ _ _ _ _ _
      | exact ih7 _ _ _ _ _ _ _ _ _ _ _ _ _ _
      | exact ih8 _ _ _ _ _ _ _ _ _ _
      | exact ih9 _ _ _ _ _ _ _ _ _ _ _ _ _ _ _ _ _ _ _ _
      | exact ih10 _ _ _ _ _ _ _ _ _ _ _ _ _ _ _ _ _ _ _ _ _ _ _ _ _ _ _ _
      | exact ih11 _ _ _ _ _ _ _ _ _ _ _ _ _ _ _ _ _ _
      | exact ih12 _ _ _ _ _ _ _ _ _ _ _ _ _ _ _
      | exact impl_AreSignals.mono _ _ _
      | exact impl_BestStarts.mono _ _ _
      | exact impl_HeardBy.mono _ _ _ _
      | exact impl_LeastTimeWith.mono _ _ _
      | exact impl_MiddleMeeting.mono _ _
      | exact impl_SpreadTimes.mono _ _ _
      | exact impl_TimeAllHear.mono _ _ _
      | exact impl_TimeAllKnow.mono _ _ _
      | exact impl_WaitsFor.mono _ _ _
      | exact laws_vHas.mono _ _ _
      | exact laws_vMost.mono _ _
      | exact laws_vRises.mono _ _
      | exact laws_vSame.mono _ _ _
      | exact spec_AreSignals.mono _ _ _
      | exact spec_BestStarts.mono _ _ _
      | exact spec_HeardBy.mono _ _ _ _
      | exact spec_LeastTimeWith.mono _ _ _
      | exact spec_MiddleMeeting.mono _ _
      | exact spec_ParseSignal.mono _ _
      | exact spec_SignalText.mono _ _ _ _
      | exact spec_SpreadTimes.mono _ _ _
      | exact spec_TimeAllHear.mono _ _ _
      | exact spec_TimeAllKnow.mono _ _ _
      | exact spec_WaitsFor.mono _ _ _
      | exact LeO.none _
      | refine LeO.ite ?_ ?_
      | refine LeO.bind ?_ (fun _ => ?_)
    · intro y0 y1 y2 y3 y4 y5 y6 y7 y8 y9 y10 y11 y12 y13
      unfold laws_FnSignalsReachOfAll.j10
      repeat' first
      | (with_reducible exact ih0 _ _ _ _ _ _ _ _ _ _ _ _ _ _ _)
      | (with_reducible exact ih1 _ _ _ _ _ _ _ _ _ _ _ _ _ _ _ _ _ _)
      | (with_reducible exact ih2 _ _ _ _ _ _ _ _ _ _ _)
      | (with_reducible exact ih3 _ _ _ _ _ _ _ _ _ _ _ _ _ _ _ _ _ _ _ _ _ _ _ _ _ _ _ _ _)
      | (with_reducible exact ih4 _ _ _ _ _ _ _ _ _ _ _ _ _ _ _ _ _ _ _ _ _ _ _)
      | (with_reducible exact ih5 _ _ _ _ _ _ _ _ _ _ _ _ _ _ _ _ _ _)
      | (with_reducible exact ih6 _ _ _ _ _ _ _ _ _ _ _ _ _ _)
      | (with_reducible exact ih7 _ _ _ _ _ _ _ _ _ _ _ _ _ _)
      | (with_reducible exact ih8 _ _ _ _ _ _ _ _ _ _)
      | (with_reducible exact ih9 _ _ _ _ _ _ _ _ _ _ _ _ _ _ _ _ _ _ _ _)
      | (with_reducible exact ih10 _ _ _ _ _ _ _ _ _ _ _ _ _ _ _ _ _ _ _ _ _ _ _ _ _ _ _ _)
      | (with_reducible exact ih11 _ _ _ _ _ _ _ _ _ _ _ _ _ _ _ _ _ _)
      | (with_reducible exact ih12 _ _ _ _ _ _ _ _ _ _ _ _ _ _ _)
      | (with_reducible exact impl_AreSignals.mono _ _ _)
      | (with_reducible exact impl_BestStarts.mono _ _ _)
      | (with_reducible exact impl_HeardBy.mono _ _ _ _)
      | (with_reducible exact impl_LeastTimeWith.mono _ _ _)
      | (with_reducible exact impl_MiddleMeeting.mono _ _)
      | (with_reducible exact impl_SpreadTimes.mono _ _ _)
      | (with_reducible exact impl_TimeAllHear.mono _ _ _)
      | (with_reducible exact impl_TimeAllKnow.mono _ _ _)
      | (with_reducible exact impl_WaitsFor.mono _ _ _)
      | (with_reducible exact laws_vHas.mono _ _ _)
      | (with_reducible exact laws_vMost.mono _ _)
      | (with_reducible exact laws_vRises.mono _ _)
      | (with_reducible exact laws_vSame.mono _ _ _)
      | (with_reducible exact spec_AreSignals.mono _ _ _)
      | (with_reducible exact spec_BestStarts.mono _ _ _)
      | (with_reducible exact spec_HeardBy.mono _ _ _ _)
      | (with_reducible exact spec_LeastTimeWith.mono _ _ _)
      | (with_reducible exact spec_MiddleMeeting.mono _ _)
      | (with_reducible exact spec_ParseSignal.mono _ _)
      | (with_reducible exact spec_SignalText.mono _ _ _ _)
      | (with_reducible exact spec_SpreadTimes.mono _ _ _)
      | (with_reducible exact spec_TimeAllHear.mono _ _ _)
      | (with_reducible exact spec_TimeAllKnow.mono _ _ _)
      | (with_reducible exact spec_WaitsFor.mono _ _ _)
      | (with_reducible exact LeO.refl _)
      | (with_reducible exact LeO.none _)
      | (with_reducible refine LeO.ite ?_ ?_)
      | (with_reducible refine LeO.bind ?_ (fun _ => ?_))
      | exact ih0 _ _ _ _ _ _ _ _ _ _ _ _ _ _ _
      | exact ih1 _ _ _ _ _ _ _ _ _ _ _ _ _ _ _ _ _ _
      | exact ih2 _ _ _ _ _ _ _ _ _ _ _
      | exact ih3 _ _ _ _ _ _ _ _ _ _ _ _ _ _ _ _ _ _ _ _ _ _ _ _ _ _ _ _ _
      | exact ih4 _ _ _ _ _ _ _ _ _ _ _ _ _ _ _ _ _ _ _ _ _ _ _
      | exact ih5 _ _ _ _ _ _ _ _ _ _ _ _ _ _ _ _ _ _
      | exact ih6 _ _ _ _ _ _ _ _ _ _ _ _ _ _
      | exact ih7 _ _ _ _ _ _ _ _ _ _ _ _ _ _
      | exact ih8 _ _ _ _ _ _ _ _ _ _
      | exact ih9 _ _ _ _ _ _ _ _ _ _ _ _ _ _ _ _ _ _ _ _
      | exact ih10 _ _ _ _ _ _ _ _ _ _ _ _ _ _ _ _ _ _ _ _ _ _ _ _ _ _ _ _
      | exact ih11 _ _ _ _ _ _ _ _ _ _ _ _ _ _ _ _ _ _
      | exact ih12 _ _ _ _ _ _ _ _ _ _ _ _ _ _ _
      | exact impl_AreSignals.mono _ _ _
      | exact impl_BestStarts.mono _ _ _
      | exact impl_HeardBy.mono _ _ _ _
      | exact impl_LeastTimeWith.mono _ _ _
      | exact impl_MiddleMeeting.mono _ _
      | exact impl_SpreadTimes.mono _ _ _
      | exact impl_TimeAllHear.mono _ _ _
      | exact impl_TimeAllKnow.mono _ _ _
      | exact impl_WaitsFor.mono _ _ _
      | exact laws_vHas.mono _ _ _
      | exact laws_vMost.mono _ _
      | exact laws_vRises.mono _ _
      | exact laws_vSame.mono _ _ _
      | exact spec_AreSignals.mono _ _ _
      | exact spec_BestStarts.mono _ _ _
      | exact spec_HeardBy.mono _ _ _ _
      | exact spec_LeastTimeWith.mono _ _ _
      | exact spec_MiddleMeeting.mono _ _
      | exact spec_ParseSignal.mono _ _
      | exact spec_SignalText.mono _ _ _ _
      | exact spec_SpreadTimes.mono _ _ _
      | exact spec_TimeAllHear.mono _ _ _
      | exact spec_TimeAllKnow.mono _ _ _
      | exact spec_WaitsFor.mono _ _ _
      | exact LeO.none _
      | refine LeO.ite ?_ ?_
      | refine LeO.bind ?_ (fun _ => ?_)
    · intro y0 y1 y2 y3 y4 y5 y6 y7 y8 y9 y10 y11 y12 y13
      unfold laws_FnSignalsReachOfAll.j11
      repeat' first
      | (with_reducible exact ih0 _ _ _ _ _ _ _ _ _ _ _ _ _ _ _)
      | (with_reducible exact ih1 _ _ _ _ _ _ _ _ _ _ _ _ _ _ _ _ _ _)
      | (with_reducible exact ih2 _ _ _ _ _ _ _ _ _ _ _)
      | (with_reducible exact ih3 _ _ _ _ _ _ _ _ _ _ _ _ _ _ _ _ _ _ _ _ _ _ _ _ _ _ _ _ _)
      | (with_reducible exact ih4 _ _ _ _ _ _ _ _ _ _ _ _ _ _ _ _ _ _ _ _ _ _ _)
      | (with_reducible exact ih5 _ _ _ _ _ _ _ _ _ _ _ _ _ _ _ _ _ _)
      | (with_reducible exact ih6 _ _ _ _ _ _ _ _ _ _ _ _ _ _)
      | (with_reducible exact ih7 _ _ _ _ _ _ _ _ _ _ _ _ _ _)
      | (with_reducible exact ih8 _ _ _ _ _ _ _ _ _ _)
      | (with_reducible exact ih9 _ _ _ _ _ _ _ _ _ _ _ _ _ _ _ _ _ _ _ _)
      | (with_reducible exact ih10 _ _ _ _ _ _ _ _ _ _ _ _ _ _ _ _ _ _ _ _ _ _ _ _ _ _ _ _)
      | (with_reducible exact ih11 _ _ _ _ _ _ _ _ _ _ _ _ _ _ _ _ _ _)
      | (with_reducible exact ih12 _ _ _ _ _ _ _ _ _ _ _ _ _ _ _)
      | (with_reducible exact impl_AreSignals.mono _ _ _)
      | (with_reducible exact impl_BestStarts.mono _ _ _)
      | (with_reducible exact impl_HeardBy.mono _ _ _ _)
      | (with_reducible exact impl_LeastTimeWith.mono _ _ _)
      | (with_reducible exact impl_MiddleMeeting.mono _ _)
      | (with_reducible exact impl_SpreadTimes.mono _ _ _)
      | (with_reducible exact impl_TimeAllHear.mono _ _ _)
      | (with_reducible exact impl_TimeAllKnow.mono _ _ _)
      | (with_reducible exact impl_WaitsFor.mono _ _ _)
      | (with_reducible exact laws_vHas.mono _ _ _)
      | (with_reducible exact laws_vMost.mono _ _)
      | (with_reducible exact laws_vRises.mono _ _)
      | (with_reducible exact laws_vSame.mono _ _ _)
      | (with_reducible exact spec_AreSignals.mono _ _ _)
      | (with_reducible exact spec_BestStarts.mono _ _ _)
      | (with_reducible exact spec_HeardBy.mono _ _ _ _)
      | (with_reducible exact spec_LeastTimeWith.mono _ _ _)
      | (with_reducible exact spec_MiddleMeeting.mono _ _)
      | (with_reducible exact spec_ParseSignal.mono _ _)
      | (with_reducible exact spec_SignalText.mono _ _ _ _)
      | (with_reducible exact spec_SpreadTimes.mono _ _ _)
      | (with_reducible exact spec_TimeAllHear.mono _ _ _)
      | (with_reducible exact spec_TimeAllKnow.mono _ _ _)
      | (with_reducible exact spec_WaitsFor.mono _ _ _)
      | (with_reducible exact LeO.refl _)
      | (with_reducible exact LeO.none _)
      | (with_reducible refine LeO.ite ?_ ?_)
      | (with_reducible refine LeO.bind ?_ (fun _ => ?_))
      | exact ih0 _ _ _ _ _ _ _ _ _ _ _ _ _ _ _
      | exact ih1 _ _ _ _ _ _ _ _ _ _ _ _ _ _ _ _ _ _
      | exact ih2 _ _ _ _ _ _ _ _ _ _ _
      | exact ih3 _ _ _ _ _ _ _ _ _ _ _ _ _ _ _ _ _ _ _ _ _ _ _ _ _ _ _ _ _
      | exact ih4 _ _ _ _ _ _ _ _ _ _ _ _ _ _ _ _ _ _ _ _ _ _ _
      | exact ih5 _ _ _ _ _ _ _ _ _ _ _ _ _ _ _ _ _ _
      | exact ih6 _ _ _ _ _ _ _ _ _ _ _ _ _ _
      | exact ih7 _ _ _ _ _ _ _ _ _ _ _ _ _ _
      | exact ih8 _ _ _ _ _ _ _ _ _ _
      | exact ih9 _ _ _ _ _ _ _ _ _ _ _ _ _ _ _ _ _ _ _ _
      | exact ih10 _ _ _ _ _ _ _ _ _ _ _ _ _ _ _ _ _ _ _ _ _ _ _ _ _ _ _ _
      | exact ih11 _ _ _ _ _ _ _ _ _ _ _ _ _ _ _ _ _ _
      | exact ih12 _ _ _ _ _ _ _ _ _ _ _ _ _ _ _
      | exact impl_AreSignals.mono _ _ _
      | exact impl_BestStarts.mono _ _ _
      | exact impl_HeardBy.mono _ _ _ _
      | exact impl_LeastTimeWith.mono _ _ _
      | exact impl_MiddleMeeting.mono _ _
      | exact impl_SpreadTimes.mono _ _ _
      | exact impl_TimeAllHear.mono _ _ _
      | exact impl_TimeAllKnow.mono _ _ _
      | exact impl_WaitsFor.mono _ _ _
      | exact laws_vHas.mono _ _ _
      | exact laws_vMost.mono _ _
      | exact laws_vRises.mono _ _
      | exact laws_vSame.mono _ _ _
      | exact spec_AreSignals.mono _ _ _
      | exact spec_BestStarts.mono _ _ _
      | exact spec_HeardBy.mono _ _ _ _
      | exact spec_LeastTimeWith.mono _ _ _
      | exact spec_MiddleMeeting.mono _ _
      | exact spec_ParseSignal.mono _ _
      | exact spec_SignalText.mono _ _ _ _
      | exact spec_SpreadTimes.mono _ _ _
      | exact spec_TimeAllHear.mono _ _ _
      | exact spec_TimeAllKnow.mono _ _ _
      | exact spec_WaitsFor.mono _ _ _
      | exact LeO.none _
      | refine LeO.ite ?_ ?_
      | refine LeO.bind ?_ (fun _ => ?_)
    · intro y0 y1 y2 y3 y4 y5 y6 y7 y8 y9
      unfold laws_FnSignalsReachOfAll.j12
      repeat' first
      | (with_reducible exact ih0 _ _ _ _ _ _ _ _ _ _ _ _ _ _ _)
      | (with_reducible exact ih1 _ _ _ _ _ _ _ _ _ _ _ _ _ _ _ _ _ _)
      | (with_reducible exact ih2 _ _ _ _ _ _ _ _ _ _ _)
      | (with_reducible exact ih3 _ _ _ _ _ _ _ _ _ _ _ _ _ _ _ _ _ _ _ _ _ _ _ _ _ _ _ _ _)
      | (with_reducible exact ih4 _ _ _ _ _ _ _ _ _ _ _ _ _ _ _ _ _ _ _ _ _ _ _)
      | (with_reducible exact ih5 _ _ _ _ _ _ _ _ _ _ _ _ _ _ _ _ _ _)
      | (with_reducible exact ih6 _ _ _ _ _ _ _ _ _ _ _ _ _ _)
      | (with_reducible exact ih7 _ _ _ _ _ _ _ _ _ _ _ _ _ _)
      | (with_reducible exact ih8 _ _ _ _ _ _ _ _ _ _)
      | (with_reducible exact ih9 _ _ _ _ _ _ _ _ _ _ _ _ _ _ _ _ _ _ _ _)
      | (with_reducible exact ih10 _ _ _ _ _ _ _ _ _ _ _ _ _ _ _ _ _ _ _ _ _ _ _ _ _ _ _ _)
      | (with_reducible exact ih11 _ _ _ _ _ _ _ _ _ _ _ _ _ _ _ _ _ _)
      | (with_reducible exact ih12 _ _ _ _ _ _ _ _ _ _ _ _ _ _ _)
      | (with_reducible exact impl_AreSignals.mono _ _ _)
      | (with_reducible exact impl_BestStarts.mono _ _ _)
      | (with_reducible exact impl_HeardBy.mono _ _ _ _)
      | (with_reducible exact impl_LeastTimeWith.mono _ _ _)
      | (with_reducible exact impl_MiddleMeeting.mono _ _)
      | (with_reducible exact impl_SpreadTimes.mono _ _ _)
      | (with_reducible exact impl_TimeAllHear.mono _ _ _)
      | (with_reducible exact impl_TimeAllKnow.mono _ _ _)
      | (with_reducible exact impl_WaitsFor.mono _ _ _)
      | (with_reducible exact laws_vHas.mono _ _ _)
      | (with_reducible exact laws_vMost.mono _ _)
      | (with_reducible exact laws_vRises.mono _ _)
      | (with_reducible exact laws_vSame.mono _ _ _)
      | (with_reducible exact spec_AreSignals.mono _ _ _)
      | (with_reducible exact spec_BestStarts.mono _ _ _)
      | (with_reducible exact spec_HeardBy.mono _ _ _ _)
      | (with_reducible exact spec_LeastTimeWith.mono _ _ _)
      | (with_reducible exact spec_MiddleMeeting.mono _ _)
      | (with_reducible exact spec_ParseSignal.mono _ _)
      | (with_reducible exact spec_SignalText.mono _ _ _ _)
      | (with_reducible exact spec_SpreadTimes.mono _ _ _)
      | (with_reducible exact spec_TimeAllHear.mono _ _ _)
      | (with_reducible exact spec_TimeAllKnow.mono _ _ _)
      | (with_reducible exact spec_WaitsFor.mono _ _ _)
      | (with_reducible exact LeO.refl _)
      | (with_reducible exact LeO.none _)
      | (with_reducible refine LeO.ite ?_ ?_)
      | (with_reducible refine LeO.bind ?_ (fun _ => ?_))
      | exact ih0 _ _ _ _ _ _ _ _ _ _ _ _ _ _ _
      | exact ih1 _ _ _ _ _ _ _ _ _ _ _ _ _ _ _ _ _ _
      | exact ih2 _ _ _ _ _ _ _ _ _ _ _
      | exact ih3 _ _ _ _ _ _ _ _ _ _ _ _ _ _ _ _ _ _ _ _ _ _ _ _ _ _ _ _ _
      | exact ih4 _ _ _ _ _ _ _ _ _ _ _ _ _ _ _ _ _ _ _ _ _ _ _
      | exact ih5 _ _ _ _ _ _ _ _ _ _ _ _ _ _ _ _ _ _
      | exact ih6 _ _ _ _ _ _ _ _ _ _ _ _ _ _
      | exact ih7 _ _ _ _ _ _ _ _ _ _ _ _ _ _
      | exact ih8 _ _ _ _ _ _ _ _ _ _
      | exact ih9 _ _ _ _ _ _ _ _ _ _ _ _ _ _ _ _ _ _ _ _
      | exact ih10 _ _ _ _ _ _ _ _ _ _ _ _ _ _ _ _ _ _ _ _ _ _ _ _ _ _ _ _
      | exact ih11 _ _ _ _ _ _ _ _ _ _ _ _ _ _ _ _ _ _
      | exact ih12 _ _ _ _ _ _ _ _ _ _ _ _ _ _ _
      | exact impl_AreSignals.mono _ _ _
      | exact impl_BestStarts.mono _ _ _
      | exact impl_HeardBy.mono _ _ _ _
      | exact impl_LeastTimeWith.mono _ _ _
      | exact impl_MiddleMeeting.mono _ _
      | exact impl_SpreadTimes.mono _ _ _
      | exact impl_TimeAllHear.mono _ _ _
      | exact impl_TimeAllKnow.mono _ _ _
      | exact impl_WaitsFor.mono _ _ _
      | exact laws_vHas.mono _ _ _
      | exact laws_vMost.mono _ _
      | exact laws_vRises.mono _ _
      | exact laws_vSame.mono _ _ _
      | exact spec_AreSignals.mono _ _ _
      | exact spec_BestStarts.mono _ _ _
      | exact spec_HeardBy.mono _ _ _ _
      | exact spec_LeastTimeWith.mono _ _ _
      | exact spec_MiddleMeeting.mono _ _
      | exact spec_ParseSignal.mono _ _
      | exact spec_SignalText.mono _ _ _ _
      | exact spec_SpreadTimes.mono _ _ _
      | exact spec_TimeAllHear.mono _ _ _
      | exact spec_TimeAllKnow.mono _ _ _
      | exact spec_WaitsFor.mono _ _ _
      | exact LeO.none _
      | refine LeO.ite ?_ ?_
      | refine LeO.bind ?_ (fun _ => ?_)
    · intro y0 y1 y2 y3 y4 y5 y6 y7 y8 y9 y10 y11 y12 y13 y14 y15 y16 y17 y18 y19
      unfold laws_FnSignalsReachOfAll.l3
      repeat' first
      | (with_reducible exact ih0 _ _ _ _ _ _ _ _ _ _ _ _ _ _ _)
      | (with_reducible exact ih1 _ _ _ _ _ _ _ _ _ _ _ _ _ _ _ _ _ _)
      | (with_reducible exact ih2 _ _ _ _ _ _ _ _ _ _ _)
      | (with_reducible exact ih3 _ _ _ _ _ _ _ _ _ _ _ _ _ _ _ _ _ _ _ _ _ _ _ _ _ _ _ _ _)
      | (with_reducible exact ih4 _ _ _ _ _ _ _ _ _ _ _ _ _ _ _ _ _ _ _ _ _ _ _)
      | (with_reducible exact ih5 _ _ _ _ _ _ _ _ _ _ _ _ _ _ _ _ _ _)
      | (with_reducible exact ih6 _ _ _ _ _ _ _ _ _ _ _ _ _ _)
      | (with_reducible exact ih7 _ _ _ _ _ _ _ _ _ _ _ _ _ _)
      | (with_reducible exact ih8 _ _ _ _ _ _ _ _ _ _)
      | (with_reducible exact ih9 _ _ _ _ _ _ _ _ _ _ _ _ _ _ _ _ _ _ _ _)
      | (with_reducible exact ih10 _ _ _ _ _ _ _ _ _ _ _ _ _ _ _ _ _ _ _ _ _ _ _ _ _ _ _ _)
      | (with_reducible exact ih11 _ _ _ _ _ _ _ _ _ _ _ _ _ _ _ _ _ _)
      | (with_reducible exact ih12 _ _ _ _ _ _ _ _ _ _ _ _ _ _ _)
      | (with_reducible exact impl_AreSignals.mono _ _ _)
      | (with_reducible exact impl_BestStarts.mono _ _ _)
      | (with_reducible exact impl_HeardBy.mono _ _ _ _)
      | (with_reducible exact impl_LeastTimeWith.mono _ _ _)
      | (with_reducible exact impl_MiddleMeeting.mono _ _)
      | (with_reducible exact impl_SpreadTimes.mono _ _ _)
      | (with_reducible exact impl_TimeAllHear.mono _ _ _)
      | (with_reducible exact impl_TimeAllKnow.mono _ _ _)
      | (with_reducible exact impl_WaitsFor.mono _ _ _)
      | (with_reducible exact laws_vHas.mono _ _ _)
      | (with_reducible exact laws_vMost.mono _ _)
      | (with_reducible exact laws_vRises.mono _ _)
      | (with_reducible exact laws_vSame.mono _ _ _)
      | (with_reducible exact spec_AreSignals.mono _ _ _)
      | (with_reducible exact spec_BestStarts.mono _ _ _)
      | (with_reducible exact spec_HeardBy.mono _ _ _ _)
      | (with_reducible exact spec_LeastTimeWith.mono _ _ _)
      | (with_reducible exact spec_MiddleMeeting.mono _ _)
      | (with_reducible exact spec_ParseSignal.mono _ _)
      | (with_reducible exact spec_SignalText.mono _ _ _ _)
      | (with_reducible exact spec_SpreadTimes.mono _ _ _)
      | (with_reducible exact spec_TimeAllHear.mono _ _ _)
      | (with_reducible exact spec_TimeAllKnow.mono _ _ _)
      | (with_reducible exact spec_WaitsFor.mono _ _ _)
      | (with_reducible exact LeO.refl _)
      | (with_reducible exact LeO.none _)
      | (with_reducible refine LeO.ite ?_ ?_)
      | (with_reducible refine LeO.bind ?_ (fun _ => ?_))
      | exact ih0 _ _ _ _ _ _ _ _ _ _ _ _ _ _ _
      | exact ih1 _ _ _ _ _ _ _ _ _ _ _ _ _ _ _ _ _ _
      | exact ih2 _ _ _ _ _ _ _ _ _ _ _
      | exact ih3 _ _ _ _ _ _ _ _ _ _ _ _ _ _ _ _ _ _ _ _ _ _ _ _ _ _ _ _ _
      | exact ih4 _ _ _ _ _ _ _ _ _ _ _ _ _ _ _ _ _ _ _ _ _ _ _
      | exact ih5 _ _ _ _ _ _ _ _ _ _ _ _ _ _ _ _ _ _
      | exact ih6 _ _ _ _ _ _ _ _ _ _ _ _ _ _
      | exact ih7 _ _ _ _ _ _ _ _ _ _ _ _ _ _
      | exact ih8 _ _ _ _ _ _ _ _ _ _
      | exact ih9 _ _ _ _ _ _ _ _ _ _ _ _ _ _ _ _ _ _ _ _
      | exact ih10 _ _ _ _ _ _ _ _ _ _ _ _ _ _ _ _ _ _ _ _ _ _ _ _ _ _ _ _
      | exact ih11 _ _ _ _ _ _ _ _ _ _ _ _ _ _ _ _ _ _
      | exact ih12 _ _ _ _ _ _ _ _ _ _ _ _ _ _ _
      | exact impl_AreSignals.mono _ _ _
      | exact impl_BestStarts.mono _ _ _
      | exact impl_HeardBy.mono _ _ _ _
      | exact impl_LeastTimeWith.mono _ _ _
      | exact impl_MiddleMeeting.mono _ _
      | exact impl_SpreadTimes.mono _ _ _
      | exact impl_TimeAllHear.mono _ _ _
      | exact impl_TimeAllKnow.mono _ _ _
      | exact impl_WaitsFor.mono _ _ _
      | exact laws_vHas.mono _ _ _
      | exact laws_vMost.mono _ _
      | exact laws_vRises.mono _ _
      | exact laws_vSame.mono _ _ _
      | exact spec_AreSignals.mono _ _ _
      | exact spec_BestStarts.mono _ _ _
      | exact spec_HeardBy.mono _ _ _ _
      | exact spec_LeastTimeWith.mono _ _ _
      | exact spec_MiddleMeeting.mono _ _
      | exact spec_ParseSignal.mono _ _
      | exact spec_SignalText.mono _ _ _ _
      | exact spec_SpreadTimes.mono _ _ _
      | exact spec_TimeAllHear.mono _ _ _
      | exact spec_TimeAllKnow.mono _ _ _
      | exact spec_WaitsFor.mono _ _ _
      | exact LeO.none _
      | refine LeO.ite ?_ ?_
      | refine LeO.bind ?_ (fun _ => ?_)
    · intro y0 y1 y2 y3 y4 y5 y6 y7 y8 y9 y10 y11 y12 y13 y14 y15 y16 y17 y18 y19 y20 y21 y22 y23 y24 y25 y26 y27
      unfold laws_FnSignalsReachOfAll.l2
      repeat' first
      | (with_reducible exact ih0 _ _ _ _ _ _ _ _ _ _ _ _ _ _ _)
      | (with_reducible exact ih1 _ _ _ _ _ _ _ _ _ _ _ _ _ _ _ _ _ _)
      | (with_reducible exact ih2 _ _ _ _ _ _ _ _ _ _ _)
      | (with_reducible exact ih3 _ _ _ _ _ _ _ _ _ _ _ _ _ _ _ _ _ _ _ _ _ _ _ _ _ _ _ _ _)
      | (with_reducible exact ih4 _ _ _ _ _ _ _ _ _ _ _ _ _ _ _ _ _ _ _ _ _ _ _)
      | (with_reducible exact ih5 _ _ _ _ _ _ _ _ _ _ _ _ _ _ _ _ _ _)
      | (with_reducible exact ih6 _ _ _ _ _ _ _ _ _ _ _ _ _ _)
      | (with_reducible exact ih7 _ _ _ _ _ _ _ _ _ _ _ _ _ _)
      | (with_reducible exact ih8 _ _ _ _ _ _ _ _ _ _)
      | (with_reducible exact ih9 _ _ _ _ _ _ _ _ _ _ _ _ _ _ _ _ _ _ _ _)
      | (with_reducible exact ih10 _ _ _ _ _ _ _ _ _ _ _ _ _ _ _ _ _ _ _ _ _ _ _ _ _ _ _ _)
      | (with_reducible exact ih11 _ _ _ _ _ _ _ _ _ _ _ _ _ _ _ _ _ _)
      | (with_reducible exact ih12 _ _ _ _ _ _ _ _ _ _ _ _ _ _ _)
      | (with_reducible exact impl_AreSignals.mono _ _ _)
      | (with_reducible exact impl_BestStarts.mono _ _ _)
      | (with_reducible exact impl_HeardBy.mono _ _ _ _)
      | (with_reducible exact impl_LeastTimeWith.mono _ _ _)
      | (with_reducible exact impl_MiddleMeeting.mono _ _)
      | (with_reducible exact impl_SpreadTimes.mono _ _ _)
      | (with_reducible exact impl_TimeAllHear.mono _ _ _)
      | (with_reducible exact impl_TimeAllKnow.mono _ _ _)
      | (with_reducible exact impl_WaitsFor.mono _ _ _)
      | (with_reducible exact laws_vHas.mono _ _ _)
      | (with_reducible exact laws_vMost.mono _ _)
      | (with_reducible exact laws_vRises.mono _ _)
      | (with_reducible exact laws_vSame.mono _ _ _)
      | (with_reducible exact spec_AreSignals.mono _ _ _)
      | (with_reducible exact spec_BestStarts.mono _ _ _)
      | (with_reducible exact spec_HeardBy.mono _ _ _ _)
      | (with_reducible exact spec_LeastTimeWith.mono _ _ _)
      | (with_reducible exact spec_MiddleMeeting.mono _ _)
      | (with_reducible exact spec_ParseSignal.mono _ _)
      | (with_reducible exact spec_SignalText.mono _ _ _ _)
      | (with_reducible exact spec_SpreadTimes.mono _ _ _)
      | (with_reducible exact spec_TimeAllHear.mono _ _ _)
      | (with_reducible exact spec_TimeAllKnow.mono _ _ _)
      | (with_reducible exact spec_WaitsFor.mono _ _ _)
      | (with_reducible exact LeO.refl _)
      | (with_reducible exact LeO.none _)
      | (with_reducible refine LeO.ite ?_ ?_)
      | (with_reducible refine LeO.bind ?_ (fun _ => ?_))
      | exact ih0 _ _ _ _ _ _ _ _ _ _ _ _ _ _ _
      | exact ih1 _ _ _ _ _ _ _ _ _ _ _ _ _ _ _ _ _ _
      | exact ih2 _ _ _ _ _ _ _ _ _ _ _
      | exact ih3 _ _ _ _ _ _ _ _ _ _ _ _ _ _ _ _ _ _ _ _ _ _ _ _ _ _ _ _ _
      | exact ih4 _ _ _ _ _ _ _ _ _ _ _ _ _ _ _ _ _ _ _ _ _ _ _
      | exact ih5 _ _ _ _ _ _ _ _ _ _ _ _ _ _ _ _ _ _
      | exact ih6 _ _ _ _ _ _ _ _ _ _ _ _ _ _
      | exact ih7 _ _ _ _ _ _ _ _ _ _ _ _ _ _
      | exact ih8 _ _ _ _ _ _ _ _ _ _
      | exact ih9 _ _ _ _ _ _ _ _ _ _ _ _ _ _ _ _ _ _ _ _
      | exact ih10 _ _ _ _ _ _ _ _ _ _ _ _ _ _ _ _ _ _ _ _ _ _ _ _ _ _ _ _
      | exact ih11 _ _ _ _ _ _ _ _ _ _ _ _ _ _ _ _ _ _
      | exact ih12 _ _ _ _ _ _ _ _ _ _ _ _ _ _ _
      | exact impl_AreSignals.mono _ _ _
      | exact impl_BestStarts.mono _ _ _
      | exact impl_HeardBy.mono _ _ _ _
      | exact impl_LeastTimeWith.mono _ _ _
      | exact impl_MiddleMeeting.mono _ _
      | exact impl_SpreadTimes.mono _ _ _
      | exact impl_TimeAllHear.mono _ _ _
      | exact impl_TimeAllKnow.mono _ _ _
      | exact impl_WaitsFor.mono _ _ _
      | exact laws_vHas.mono _ _ _
      | exact laws_vMost.mono _ _
      | exact laws_vRises.mono _ _
      | exact laws_vSame.mono _ _ _
      | exact spec_AreSignals.mono _ _ _
      | exact spec_BestStarts.mono _ _ _
      | exact spec_HeardBy.mono _ _ _ _
      | exact spec_LeastTimeWith.mono _ _ _
      | exact spec_MiddleMeeting.mono _ _
      | exact spec_ParseSignal.mono _ _
      | exact spec_SignalText.mono _ _ _ _
      | exact spec_SpreadTimes.mono _ _ _
      | exact spec_TimeAllHear.mono _ _ _
      | exact spec_TimeAllKnow.mono _ _ _
      | exact spec_WaitsFor.mono _ _ _
      | exact LeO.none _
      | refine LeO.ite ?_ ?_
      | refine LeO.bind ?_ (fun _ => ?_)
    · intro y0 y1 y2 y3 y4 y5 y6 y7 y8 y9 y10 y11 y12 y13 y14 y15 y16 y17
      unfold laws_FnSignalsReachOfAll.l0
      repeat' first
      | (with_reducible exact ih0 _ _ _ _ _ _ _ _ _ _ _ _ _ _ _)
      | (with_reducible exact ih1 _ _ _ _ _ _ _ _ _ _ _ _ _ _ _ _ _ _)
      | (with_reducible exact ih2 _ _ _ _ _ _ _ _ _ _ _)
      | (with_reducible exact ih3 _ _ _ _ _ _ _ _ _ _ _ _ _ _ _ _ _ _ _ _ _ _ _ _ _ _ _ _ _)
      | (with_reducible exact ih4 _ _ _ _ _ _ _ _ _ _ _ _ _ _ _ _ _ _ _ _ _ _ _)
      | (with_reducible exact ih5 _ _ _ _ _ _ _ _ _ _ _ _ _ _ _ _ _ _)
      | (with_reducible exact ih6 _ _ _ _ _ _ _ _ _ _ _ _ _ _)
      | (with_reducible exact ih7 _ _ _ _ _ _ _ _ _ _ _ _ _ _)
      | (with_reducible exact ih8 _ _ _ _ _ _ _ _ _ _)
      | (with_reducible exact ih9 _ _ _ _ _ _ _ _ _ _ _ _ _ _ _ _ _ _ _ _)
      | (with_reducible exact ih10 _ _ _ _ _ _ _ _ _ _ _ _ _ _ _ _ _ _ _ _ _ _ _ _ _ _ _ _)
      | (with_reducible exact ih11 _ _ _ _ _ _ _ _ _ _ _ _ _ _ _ _ _ _)
      | (with_reducible exact ih12 _ _ _ _ _ _ _ _ _ _ _ _ _ _ _)
      | (with_reducible exact impl_AreSignals.mono _ _ _)
      | (with_reducible exact impl_BestStarts.mono _ _ _)
      | (with_reducible exact impl_HeardBy.mono _ _ _ _)
      | (with_reducible exact impl_LeastTimeWith.mono _ _ _)
      | (with_reducible exact impl_MiddleMeeting.mono _ _)
      | (with_reducible exact impl_SpreadTimes.mono _ _ _)
      | (with_reducible exact impl_TimeAllHear.mono _ _ _)
      | (with_reducible exact impl_TimeAllKnow.mono _ _ _)
      | (with_reducible exact impl_WaitsFor.mono _ _ _)
      | (with_reducible exact laws_vHas.mono _ _ _)
      | (with_reducible exact laws_vMost.mono _ _)
      | (with_reducible exact laws_vRises.mono _ _)
      | (with_reducible exact laws_vSame.mono _ _ _)
      | (with_reducible exact spec_AreSignals.mono _ _ _)
      | (with_reducible exact spec_BestStarts.mono _ _ _)
      | (with_reducible exact spec_HeardBy.mono _ _ _ _)
      | (with_reducible exact spec_LeastTimeWith.mono _ _ _)
      | (with_reducible exact spec_MiddleMeeting.mono _ _)
      | (with_reducible exact spec_ParseSignal.mono _ _)
      | (with_reducible exact spec_SignalText.mono _ _ _ _)
      | (with_reducible exact spec_SpreadTimes.mono _ _ _)
      | (with_reducible exact spec_TimeAllHear.mono _ _ _)
      | (with_reducible exact spec_TimeAllKnow.mono _ _ _)
      | (with_reducible exact spec_WaitsFor.mono _ _ _)
      | (with_reducible exact LeO.refl _)
      | (with_reducible exact LeO.none _)
      | (with_reducible refine LeO.ite ?_ ?_)
      | (with_reducible refine LeO.bind ?_ (fun _ => ?_))
      | exact ih0 _ _ _ _ _ _ _ _ _ _ _ _ _ _ _
      | exact ih1 _ _ _ _ _ _ _ _ _ _ _ _ _ _ _ _ _ _
      | exact ih2 _ _ _ _ _ _ _ _ _ _ _
      | exact ih3 _ _ _ _ _ _ _ _ _ _ _ _ _ _ _ _ _ _ _ _ _ _ _ _ _ _ _ _ _
      | exact ih4 _ _ _ _ _ _ _ _ _ _ _ _ _ _ _ _ _ _ _ _ _ _ _
      | exact ih5 _ _ _ _ _ _ _ _ _ _ _ _ _ _ _ _ _ _
      | exact ih6 _ _ _ _ _ _ _ _ _ _ _ _ _ _
      | exact ih7 _ _ _ _ _ _ _ _ _ _ _ _ _ _
      | exact ih8 _ _ _ _ _ _ _ _ _ _
      | exact ih9 _ _ _ _ _ _ _ _ _ _ _ _ _ _ _ _ _ _ _ _
      | exact ih10 _ _ _ _ _ _ _ _ _ _ _ _ _ _ _ _ _ _ _ _ _ _ _ _ _ _ _ _
      | exact ih11 _ _ _ _ _ _ _ _ _ _ _ _ _ _ _ _ _ _
      | exact ih12 _ _ _ _ _ _ _ _ _ _ _ _ _ _ _
      | exact impl_AreSignals.mono _ _ _
      | exact impl_BestStarts.mono _ _ _
      | exact impl_HeardBy.mono _ _ _ _
      | exact impl_LeastTimeWith.mono _ _ _
      | exact impl_MiddleMeeting.mono _ _
      | exact impl_SpreadTimes.mono _ _ _
      | exact impl_TimeAllHear.mono _ _ _
      | exact impl_TimeAllKnow.mono _ _ _
      | exact impl_WaitsFor.mono _ _ _
      | exact laws_vHas.mono _ _ _
      | exact laws_vMost.mono _ _
      | exact laws_vRises.mono _ _
      | exact laws_vSame.mono _ _ _
      | exact spec_AreSignals.mono _ _ _
      | exact spec_BestStarts.mono _ _ _
      | exact spec_HeardBy.mono _ _ _ _
      | exact spec_LeastTimeWith.mono _ _ _
      | exact spec_MiddleMeeting.mono _ _
      | exact spec_ParseSignal.mono _ _
      | exact spec_SignalText.mono _ _ _ _
      | exact spec_SpreadTimes.mono _ _ _
      | exact spec_TimeAllHear.mono _ _ _
      | exact spec_TimeAllKnow.mono _ _ _
      | exact spec_WaitsFor.mono _ _ _
      | exact LeO.none _
      | refine LeO.ite ?_ ?_
      | refine LeO.bind ?_ (fun _ => ?_)
    · intro y0 y1 y2 y3 y4 y5 y6 y7 y8 y9 y10 y11 y12 y13 y14
      unfold laws_FnSignalsReachOfAll.l1
      repeat' first
      | (with_reducible exact ih0 _ _ _ _ _ _ _ _ _ _ _ _ _ _ _)
      | (with_reducible exact ih1 _ _ _ _ _ _ _ _ _ _ _ _ _ _ _ _ _ _)
      | (with_reducible exact ih2 _ _ _ _ _ _ _ _ _ _ _)
      | (with_reducible exact ih3 _ _ _ _ _ _ _ _ _ _ _ _ _ _ _ _ _ _ _ _ _ _ _ _ _ _ _ _ _)
      | (with_reducible exact ih4 _ _ _ _ _ _ _ _ _ _ _ _ _ _ _ _ _ _ _ _ _ _ _)
      | (with_reducible exact ih5 _ _ _ _ _ _ _ _ _ _ _ _ _ _ _ _ _ _)
      | (with_reducible exact ih6 _ _ _ _ _ _ _ _ _ _ _ _ _ _)
      | (with_reducible exact ih7 _ _ _ _ _ _ _ _ _ _ _ _ _ _)
      | (with_reducible exact ih8 _ _ _ _ _ _ _ _ _ _)
      | (with_reducible exact ih9 _ _ _ _ _ _ _ _ _ _ _ _ _ _ _ _ _ _ _ _)
      | (with_reducible exact ih10 _ _ _ _ _ _ _ _ _ _ _ _ _ _ _ _ _ _ _ _ _ _ _ _ _ _ _ _)
      | (with_reducible exact ih11 _ _ _ _ _ _ _ _ _ _ _ _ _ _ _ _ _ _)
      | (with_reducible exact ih12 _ _ _ _ _ _ _ _ _ _ _ _ _ _ _)
      | (with_reducible exact impl_AreSignals.mono _ _ _)
      | (with_reducible exact impl_BestStarts.mono _ _ _)
      | (with_reducible exact impl_HeardBy.mono _ _ _ _)
      | (with_reducible exact impl_LeastTimeWith.mono _ _ _)
      | (with_reducible exact impl_MiddleMeeting.mono _ _)
      | (with_reducible exact impl_SpreadTimes.mono _ _ _)
      | (with_reducible exact impl_TimeAllHear.mono _ _ _)
      | (with_reducible exact impl_TimeAllKnow.mono _ _ _)
      | (with_reducible exact impl_WaitsFor.mono _ _ _)
      | (with_reducible exact laws_vHas.mono _ _ _)
      | (with_reducible exact laws_vMost.mono _ _)
      | (with_reducible exact laws_vRises.mono _ _)
      | (with_reducible exact laws_vSame.mono _ _ _)
      | (with_reducible exact spec_AreSignals.mono _ _ _)
      | (with_reducible exact spec_BestStarts.mono _ _ _)
      | (with_reducible exact spec_HeardBy.mono _ _ _ _)
      | (with_reducible exact spec_LeastTimeWith.mono _ _ _)
      | (with_reducible exact spec_MiddleMeeting.mono _ _)
      | (with_reducible exact spec_ParseSignal.mono _ _)
      | (with_reducible exact spec_SignalText.mono _ _ _ _)
      | (with_reducible exact spec_SpreadTimes.mono _ _ _)
      | (with_reducible exact spec_TimeAllHear.mono _ _ _)
      | (with_reducible exact spec_TimeAllKnow.mono _ _ _)
      | (with_reducible exact spec_WaitsFor.mono _ _ _)
      | (with_reducible exact LeO.refl _)
      | (with_reducible exact LeO.none _)
      | (with_reducible refine LeO.ite ?_ ?_)
      | (with_reducible refine LeO.bind ?_ (fun _ => ?_))
      | exact ih0 _ _ _ _ _ _ _ _ _ _ _ _ _ _ _
      | exact ih1 _ _ _ _ _ _ _ _ _ _ _ _ _ _ _ _ _ _
      | exact ih2 _ _ _ _ _ _ _ _ _ _ _
      | exact ih3 _ _ _ _ _ _ _ _ _ _ _ _ _ _ _ _ _ _ _ _ _ _ _ _ _ _ _ _ _
      | exact ih4 _ _ _ _ _ _ _ _ _ _ _ _ _ _ _ _ _ _ _ _ _ _ _
      | exact ih5 _ _ _ _ _ _ _ _ _ _ _ _ _ _ _ _ _ _
      | exact ih6 _ _ _ _ _ _ _ _ _ _ _ _ _ _
      | exact ih7 _ _ _ _ _ _ _ _ _ _ _ _ _ _
      | exact ih8 _ _ _ _ _ _ _ _ _ _
      | exact ih9 _ _ _ _ _ _ _ _ _ _ _ _ _ _ _ _ _ _ _ _
      | exact ih10 _ _ _ _ _ _ _ _ _ _ _ _ _ _ _ _ _ _ _ _ _ _ _ _ _ _ _ _
      | exact ih11 _ _ _ _ _ _ _ _ _ _ _ _ _ _ _ _ _ _
      | exact ih12 _ _ _ _ _ _ _ _ _ _ _ _ _ _ _
      | exact impl_AreSignals.mono _ _ _
      | exact impl_BestStarts.mono _ _ _
      | exact impl_HeardBy.mono _ _ _ _
      | exact impl_LeastTimeWith.mono _ _ _
      | exact impl_MiddleMeeting.mono _ _
      | exact impl_SpreadTimes.mono _ _ _
      | exact impl_TimeAllHear.mono _ _ _
      | exact impl_TimeAllKnow.mono _ _ _
      | exact impl_WaitsFor.mono _ _ _
      | exact laws_vHas.mono _ _ _
      | exact laws_vMost.mono _ _
      | exact laws_vRises.mono _ _
      | exact laws_vSame.mono _ _ _
      | exact spec_AreSignals.mono _ _ _
      | exact spec_BestStarts.mono _ _ _
      | exact spec_HeardBy.mono _ _ _ _
      | exact spec_LeastTimeWith.mono _ _ _
      | exact spec_MiddleMeeting.mono _ _
      | exact spec_ParseSignal.mono _ _
      | exact spec_SignalText.mono _ _ _ _
      | exact spec_SpreadTimes.mono _ _ _
      | exact spec_TimeAllHear.mono _ _ _
      | exact spec_TimeAllKnow.mono _ _ _
      | exact spec_WaitsFor.mono _ _ _
      | exact LeO.none _
      | refine LeO.ite ?_ ?_
      | refine LeO.bind ?_ (fun _ => ?_)
theorem laws_FnSignalsReachOfAll.mono : ∀ a0 a1 a2 a3 a4 a5 a6 a7 a8 a9 a10 a11 a12 a13 k, LeO (laws_FnSignalsReachOfAll.f k a0 a1 a2 a3 a4 a5 a6 a7 a8 a9 a10 a11 a12 a13) (laws_FnSignalsReachOfAll.f (k + 1) a0 a1 a2 a3 a4 a5 a6 a7 a8 a9 a10 a11 a12 a13) := by
  intro a0 a1 a2 a3 a4 a5 a6 a7 a8 a9 a10 a11 a12 a13 k
  obtain ⟨ih0, ih1, ih2, ih3, ih4, ih5, ih6, ih7, ih8, ih9, ih10, ih11, ih12⟩ := laws_FnSignalsReachOfAll.mono_l k
  unfold laws_FnSignalsReachOfAll.f
  repeat' first
      | (with_reducible exact ih0 _ _ _ _ _ _ _ _ _ _ _ _ _ _ _)
      | (with_reducible exact ih1 _ _ _ _ _ _ _ _ _ _ _ _ _ _ _ _ _ _)
      | (with_reducible exact ih2 _ _ _ _ _ _ _ _ _ _ _)
      | (with_reducible exact ih3 _ _ _ _ _ _ _ _ _ _ _ _ _ _ _ _ _ _ _ _ _ _ _ _ _ _ _ _ _)
      | (with_reducible exact ih4 _ _ _ _ _ _ _ _ _ _ _ _ _ _ _ _ _ _ _ _ _ _ _)
      | (with_reducible exact ih5 _ _ _ _ _ _ _ _ _ _ _ _ _ _ _ _ _ _)
      | (with_reducible exact ih6 _ _ _ _ _ _ _ _ _ _ _ _ _ _)
      | (with_reducible exact ih7 _ _ _ _ _ _ _ _ _ _ _ _ _ _)
      | (with_reducible exact ih8 _ _ _ _ _ _ _ _ _ _)
      | (with_reducible exact ih9 _ _ _ _ _ _ _ _ _ _ _ _ _ _ _ _ _ _ _ _)
      | (with_reducible exact ih10 _ _ _ _ _ _ _ _ _ _ _ _ _ _ _ _ _ _ _ _ _ _ _ _ _ _ _ _)
      | (with_reducible exact ih11 _ _ _ _ _ _ _ _ _ _ _ _ _ _ _ _ _ _)
      | (with_reducible exact ih12 _ _ _ _ _ _ _ _ _ _ _ _ _ _ _)
      | (with_reducible exact impl_AreSignals.mono _ _ _)
      | (with_reducible exact impl_BestStarts.mono _ _ _)
      | (with_reducible exact impl_HeardBy.mono _ _ _ _)
      | (with_reducible exact impl_LeastTimeWith.mono _ _ _)
      | (with_reducible exact impl_MiddleMeeting.mono _ _)
      | (with_reducible exact impl_SpreadTimes.mono _ _ _)
      | (with_reducible exact impl_TimeAllHear.mono _ _ _)
      | (with_reducible exact impl_TimeAllKnow.mono _ _ _)
      | (with_reducible exact impl_WaitsFor.mono _ _ _)
      | (with_reducible exact laws_vHas.mono _ _ _)
      | (with_reducible exact laws_vMost.mono _ _)
      | (with_reducible exact laws_vRises.mono _ _)
      | (with_reducible exact laws_vSame.mono _ _ _)
      | (with_reducible exact spec_AreSignals.mono _ _ _)
      | (with_reducible exact spec_BestStarts.mono _ _ _)
      | (with_reducible exact spec_HeardBy.mono _ _ _ _)
      | (with_reducible exact spec_LeastTimeWith.mono _ _ _)
      | (with_reducible exact spec_MiddleMeeting.mono _ _)
      | (with_reducible exact spec_ParseSignal.mono _ _)
      | (with_reducible exact spec_SignalText.mono _ _ _ _)
      | (with_reducible exact spec_SpreadTimes.mono _ _ _)
      | (with_reducible exact spec_TimeAllHear.mono _ _ _)
      | (with_reducible exact spec_TimeAllKnow.mono _ _ _)
      | (with_reducible exact spec_WaitsFor.mono _ _ _)
      | (with_reducible exact LeO.refl _)
      | (with_reducible exact LeO.none _)
      | (with_reducible refine LeO.ite ?_ ?_)
      | (with_reducible refine LeO.bind ?_ (fun _ => ?_))
      | exact ih0 _ _ _ _ _ _ _ _ _ _ _ _ _ _ _
      | exact ih1 _ _ _ _ _ _ _ _ _ _ _ _ _ _ _ _ _ _
      | exact ih2 _ _ _ _ _ _ _ _ _ _ _
      | exact ih3 _ _ _ _ _ _ _ _ _ _ _ _ _ _ _ _ _ _ _ _ _ _ _ _ _ _ _ _ _
      | exact ih4 _ _ _ _ _ _ _ _ _ _ _ _ _ _ _ _ _ _ _ _ _ _ _
      | exact ih5 _ _ _ _ _ _ _ _ _ _ _ _ _ _ _ _ _ _
      | exact ih6 _ _ _ _ _ _ _ _ _ _ _ _ _ _
      | exact ih7 _ _ _ _ _ _ _ _ _ _ _ _ _ _
      | exact ih8 _ _ _ _ _ _ _ _ _ _
      | exact ih9 _ _ _ _ _ _ _ _ _ _ _ _ _ _ _ _ _ _ _ _
      | exact ih10 _ _ _ _ _ _ _ _ _ _ _ _ _ _ _ _ _ _ _ _ _ _ _ _ _ _ _ _
      | exact ih11 _ _ _ _ _ _ _ _ _ _ _ _ _ _ _ _ _ _
      | exact ih12 _ _ _ _ _ _ _ _ _ _ _ _ _ _ _
      | exact impl_AreSignals.mono _ _ _
      | exact impl_BestStarts.mono _ _ _
      | exact impl_HeardBy.mono _ _ _ _
      | exact impl_LeastTimeWith.mono _ _ _
      | exact impl_MiddleMeeting.mono _ _
      | exact impl_SpreadTimes.mono _ _ _
      | exact impl_TimeAllHear.mono _ _ _
      | exact impl_TimeAllKnow.mono _ _ _
      | exact impl_WaitsFor.mono _ _ _
      | exact laws_vHas.mono _ _ _
      | exact laws_vMost.mono _ _
      | exact laws_vRises.mono _ _
      | exact laws_vSame.mono _ _ _
      | exact spec_AreSignals.mono _ _ _
      | exact spec_BestStarts.mono _ _ _
      | exact spec_HeardBy.mono _ _ _ _
      | exact spec_LeastTimeWith.mono _ _ _
      | exact spec_MiddleMeeting.mono _ _
      | exact spec_ParseSignal.mono _ _
      | exact spec_SignalText.mono _ _ _ _
      | exact spec_SpreadTimes.mono _ _ _
      | exact spec_TimeAllHear.mono _ _ _
      | exact spec_TimeAllKnow.mono _ _ _
      | exact spec_WaitsFor.mono _ _ _
      | exact LeO.none _
      | refine LeO.ite ?_ ?_
      | refine LeO.bind ?_ (fun _ => ?_)
end Go.Proofs.YtefihklpegcmpaaGreatDoor.PFnSignalsReachOfAll
