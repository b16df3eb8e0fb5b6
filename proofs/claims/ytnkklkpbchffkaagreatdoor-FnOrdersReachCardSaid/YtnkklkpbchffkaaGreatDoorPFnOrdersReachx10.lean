-- Laid by xprint, a program of this session that runs over the kit's print.
import Derived.Test.YtnkklkpbchffkaaGreatDoorPFnOrdersReachx0
import Derived.Test.YtnkklkpbchffkaaGreatDoorPFnOrdersReachx1
import Derived.Test.YtnkklkpbchffkaaGreatDoorPFnOrdersReachx2
import Derived.Test.YtnkklkpbchffkaaGreatDoorPFnOrdersReachx3
import Derived.Test.YtnkklkpbchffkaaGreatDoorPFnOrdersReachx4
import Derived.Test.YtnkklkpbchffkaaGreatDoorPFnOrdersReachx5
import Derived.Test.YtnkklkpbchffkaaGreatDoorPFnOrdersReachx6
import Derived.Test.YtnkklkpbchffkaaGreatDoorPFnOrdersReachx7
import Derived.Test.YtnkklkpbchffkaaGreatDoorPFnOrdersReachx8
import Derived.Test.YtnkklkpbchffkaaGreatDoorPFnOrdersReachx9
namespace Go.Proofs.YtnkklkpbchffkaaGreatDoor.PFnOrdersReach
open Go.RowKit Go.Proofs.YtnkklkpbchffkaaGreatDoorW.PrintWords Go.Proofs.YtnkklkpbchffkaaGreatDoorW.PrintLast Go.Proofs.YtnkklkpbchffkaaGreatDoorW.PrintMore Go.Proofs.YtnkklkpbchffkaaGreatDoor.Sq
attribute [local go_sem] max2_int min2_int max_two min_two max_three min_three max_four min_four   -- for this text's walks alone
set_option linter.unusedVariables false
set_option linter.unusedSimpArgs false

/-! ### laws_FnOrdersReach: function 3 -/
mutual
def laws_FnOrdersReach.j0 : Nat → List Int → ByteArray → ByteArray → Int → List Int → Bool → Bool → Bool → Bool → Option (Bool)
  | 0, _, _, _, _, _, _, _, _, _ => none
  | k + 1, x1, x5, x6, x7, x8, x9, x12, x13, x138 => if x138 = true then (some false) else (if x9 = true then ((impl_PlayWindows.f k x5 x7 x8).bind fun bt466 => ((impl_WindowsTo.f k x6 x5 x7).bind fun bt468 => (if bt466.2 = true then (if bt466.1.toList = x6.toList then ((laws_mRises.f k x8).bind fun t472 => (if t472 = true then (if bt468.2 = true then ((laws_mSame.f k bt468.1 x8).bind fun t473 => (if t473 = true then (laws_FnOrdersReach.j1 k x1 x7 x12 x13) else (some false))) else (some false)) else (some false))) else (some false)) else (some false)))) else (laws_FnOrdersReach.j1 k x1 x7 x12 x13))
def laws_FnOrdersReach.j1 : Nat → List Int → Int → Bool → Bool → Option (Bool)
  | 0, _, _, _, _ => none
  | k + 1, x1, x7, x12, x13 => if x13 = true then (if x7 = 1 then (laws_FnOrdersReach.j2 k x1 (!x12)) else (laws_FnOrdersReach.j2 k x1 false)) else (laws_FnOrdersReach.j2 k x1 false)
def laws_FnOrdersReach.j2 : Nat → List Int → Bool → Option (Bool)
  | 0, _, _ => none
  | k + 1, x1, x184 => if x184 = true then (some false) else ((spec_DrawNeighboursTo.f k x1).bind fun bt474 => ((impl_NeighboursTo.f k bt474.1 bt474.2).bind fun bt476 => ((spec_NeighboursTo.f k bt474.1 bt474.2).bind fun bt480 => ((impl_CanByNeighbours.f k bt474.1 bt474.2).bind fun bt484 => ((spec_CanByNeighbours.f k bt474.1 bt474.2).bind fun bt486 => ((spec_DrawIdleOrders.f x1).bind fun t488 => ((impl_IdleOrders.f k t488).bind fun bt489 => ((spec_IdleOrders.f k t488).bind fun bt493 => ((impl_CountByNeighbours.f k t488).bind fun bt497 => ((spec_CountByNeighbours.f k t488).bind fun bt499 => ((spec_DrawCountByWindows.f x1).bind fun bt501 => ((impl_CountByWindows.f bt501.1 bt501.2).bind fun bt503 => ((spec_CountByWindows.f bt501.1 bt501.2).bind fun bt505 => ((spec_DrawPlayWindows.f k x1).bind fun bt507 => ((impl_PlayWindows.f k bt507.1 bt507.2.1 bt507.2.2).bind fun bt512 => ((spec_PlayWindows.f k bt507.1 bt507.2.1 bt507.2.2).bind fun bt514 => ((spec_DrawPlayNeighbours.f k x1).bind fun bt516 => ((impl_PlayNeighbours.f k bt516.1 bt516.2).bind fun bt520 => ((spec_PlayNeighbours.f k bt516.1 bt516.2).bind fun bt522 => (if (bt476.2 != bt480.2) = true then (some false) else ((laws_mSame.f k bt476.1 bt480.1).bind fun t524 => (if t524 = true then (if (bt484.2 != bt486.2) = true then (some false) else (if (bt484.1 != bt486.1) = true then (some false) else (if bt484.2 = true then (if (bt476.2 != bt484.1) = true then (some false) else (if (bt489.2 != bt493.2) = true then (some false) else ((laws_mSame.f k bt489.1 bt493.1).bind fun t525 => (if t525 = true then (if (bt497.2 != bt499.2) = true then (some false) else (if bt497.1 = bt499.1 then (if (bt503.2 != bt505.2) = true then (some false) else (if bt503.1 = bt505.1 then (if (bt512.2 != bt514.2) = true then (some false) else (if bt512.1.toList = bt514.1.toList then (if (bt520.2 != bt522.2) = true then (some false) else (if bt520.1.toList = bt522.1.toList then (if bt489.2 = true then (laws_FnOrdersReach.j3 k bt474.1 bt474.2 bt476.1 bt476.2 t488 bt489.1 bt489.2 bt497.1 bt497.2 bt501.1 bt501.2 bt503.1 bt503.2 bt516.1 bt516.2 bt520.1 bt520.2 (!bt497.2)) else (laws_FnOrdersReach.j3 k bt474.1 bt474.2 bt476.1 bt476.2 t488 bt489.1 bt489.2 bt497.1 bt497.2 bt501.1 bt501.2 bt503.1 bt503.2 bt516.1 bt516.2 bt520.1 bt520.2 false)) else (some false))) else (some false))) else (some false))) else (some false))) else (some false))))) else (if (bt476.2 != false) = true then (some false) else (if (bt489.2 != bt493.2) = true then (some false) else ((laws_mSame.f k bt489.1 bt493.1).bind fun t526 => (if t526 = true then (if (bt497.2 != bt499.2) = true then (some false) else (if bt497.1 = bt499.1 then (if (bt503.2 != bt505.2) = true then (some false) else (if bt503.1 = bt505.1 then (if (bt512.2 != bt514.2) = true then (some false) else (if bt512.1.toList = bt514.1.toList then (if (bt520.2 != bt522.2) = true then (some false) else (if bt520.1.toList = bt522.1.toList then (if bt489.2 = true then (laws_FnOrdersReach.j3 k bt474.1 bt474.2 bt476.1 bt476.2 t488 bt489.1 bt489.2 bt497.1 bt497.2 bt501.1 bt501.2 bt503.1 bt503.2 bt516.1 bt516.2 bt520.1 bt520.2 (!bt497.2)) else (laws_FnOrdersReach.j3 k bt474.1 bt474.2 bt476.1 bt476.2 t488 bt489.1 bt489.2 bt497.1 bt497.2 bt501.1 bt501.2 bt503.1 bt503.2 bt516.1 bt516.2 bt520.1 bt520.2 false)) else (some false))) else (some false))) else (some false))) else (some false))) else (some false)))))))) else (some false)))))))))))))))))))))))
def laws_FnOrdersReach.j3 : Nat → ByteArray → ByteArray → List Int → Bool → Int → List Int → Bool → Int → Bool → Int → Int → Int → Bool → ByteArray → List Int → ByteArray → Bool → Bool → Option (Bool)
  | 0, _, _, _, _, _, _, _, _, _, _, _, _, _, _, _, _, _, _ => none
  | k + 1, x20, x21, x22, x23, x30, x31, x32, x35, x36, x39, x40, x41, x42, x52, x53, x54, x55, x374 => if x374 = true then (some false) else (if x23 = true then ((impl_PlayNeighbours.f k x20 x22).bind fun bt527 => (if bt527.2 = true then (if bt527.1.toList = x21.toList then ((laws_mRises.f k x22).bind fun t529 => (if t529 = true then (if (wrap64 (2 * (x22.length : Int))) > (wrap64 (2 * (x20.size : Int))) then (some false) else ((impl_IdleOrders.f k (x20.size : Int)).bind fun bt530 => (if bt530.2 = true then (laws_FnOrdersReach.l0 k x20 x21 x22 x30 x31 x32 x35 x36 x39 x40 x41 x42 x52 x53 x54 x55 bt530.1 ([] : List Int) 0 x20) else (laws_FnOrdersReach.j5 k x30 x31 x32 x35 x36 x39 x40 x41 x42 x52 x53 x54 x55)))) else (some false))) else (some false)) else (some false))) else (laws_FnOrdersReach.j5 k x30 x31 x32 x35 x36 x39 x40 x41 x42 x52 x53 x54 x55))
def laws_FnOrdersReach.j5 : Nat → Int → List Int → Bool → Int → Bool → Int → Int → Int → Bool → ByteArray → List Int → ByteArray → Bool → Option (Bool)
  | 0, _, _, _, _, _, _, _, _, _, _, _, _, _ => none
  | k + 1, x30, x31, x32, x35, x36, x39, x40, x41, x42, x52, x53, x54, x55 => if x36 = true then (if (x32 != ((Int.tmod x30 3) == 2)) = true then (some false) else (if x32 = true then (if 0 ≤ (wrap64 (x30 - 1)) then (if x35 = (shl .i64 1 (wrap64 (x30 - 1))) then (laws_FnOrdersReach.j6 k x30 x31 x32 x39 x40 x41 x42 x52 x53 x54 x55) else (some false)) else (none)) else (if 0 ≤ x30 then (if x35 = (shl .i64 1 x30) then (laws_FnOrdersReach.j6 k x30 x31 x32 x39 x40 x41 x42 x52 x53 x54 x55) else (some false)) else (none)))) else (laws_FnOrdersReach.j6 k x30 x31 x32 x39 x40 x41 x42 x52 x53 x54 x55)
def laws_FnOrdersReach.j6 : Nat → Int → List Int → Bool → Int → Int → Int → Bool → ByteArray → List Int → ByteArray → Bool → Option (Bool)
  | 0, _, _, _, _, _, _, _, _, _, _, _ => none
  | k + 1, x30, x31, x32, x39, x40, x41, x42, x52, x53, x54, x55 => if x32 = true then (laws_FnOrdersReach.l1 k x30 x31 x39 x40 x41 x42 x52 x53 x54 x55 (⟨#[]⟩ : ByteArray) 0) else (laws_FnOrdersReach.j8 k x39 x40 x41 x42 x52 x53 x54 x55)
def laws_FnOrdersReach.j8 : Nat → Int → Int → Int → Bool → ByteArray → List Int → ByteArray → Bool → Option (Bool)
  | 0, _, _, _, _, _, _, _, _ => none
  | k + 1, x39, x40, x41, x42, x52, x53, x54, x55 => if x42 = true then (if 0 ≤ (wrap64 ((wrap64 (x39 - x40)) + 1)) then (laws_FnOrdersReach.j9 k x52 x53 x54 x55 (x41 != (shl .i64 1 (wrap64 ((wrap64 (x39 - x40)) + 1))))) else (none)) else (laws_FnOrdersReach.j9 k x52 x53 x54 x55 false)
def laws_FnOrdersReach.j9 : Nat → ByteArray → List Int → ByteArray → Bool → Bool → Option (Bool)
  | 0, _, _, _, _, _ => none
  | k + 1, x52, x53, x54, x55, x524 => if x524 = true then (some false) else (if x55 = true then (laws_FnOrdersReach.l2 k x54 x52 x53 (x53.length : Int) 0) else (some true))
def laws_FnOrdersReach.l2 : Nat → ByteArray → ByteArray → List Int → Int → Int → Option (Bool)
  | 0, _, _, _, _, _ => none
  | k + 1, x54, x70, x527, x528, x529 => if x529 < x528 then (if 0 ≤ x529 then (if x529 < (x527.length : Int) then ((impl_TurnAround.f x70 (rd x527 x529)).bind fun bt547 => (if bt547.2 = true then (laws_FnOrdersReach.l2 k x54 bt547.1 x527 x528 (wrap64 (x529 + 1))) else (some false))) else (none)) else (none)) else (some (x70.toList == x54.toList))
def laws_FnOrdersReach.l1 : Nat → Int → List Int → Int → Int → Int → Bool → ByteArray → List Int → ByteArray → Bool → ByteArray → Int → Option (Bool)
  | 0, _, _, _, _, _, _, _, _, _, _, _, _ => none
  | k + 1, x30, x31, x39, x40, x41, x42, x52, x53, x54, x55, x66, x67 => if x67 < x30 then (if x66.size + 1 ≤ 9223372036854775807 then (laws_FnOrdersReach.l1 k x30 x31 x39 x40 x41 x42 x52 x53 x54 x55 (x66 ++ (⟨#[60]⟩ : ByteArray)) (wrap64 (x67 + 1))) else (none)) else ((impl_PlayNeighbours.f k x66 x31).bind fun bt543 => (if bt543.2 = true then (if bt543.1.toList = x66.toList then (if (x31.length : Int) < 1 then (some false) else ((laws_mRises.f k x31).bind fun t545 => (if t545 = true then (laws_FnOrdersReach.j8 k x39 x40 x41 x42 x52 x53 x54 x55) else (some false)))) else (some false)) else (some false)))
def laws_FnOrdersReach.l0 : Nat → ByteArray → ByteArray → List Int → Int → List Int → Bool → Int → Bool → Int → Int → Int → Bool → ByteArray → List Int → ByteArray → Bool → List Int → List Int → Int → ByteArray → Option (Bool)
  | 0, _, _, _, _, _, _, _, _, _, _, _, _, _, _, _, _, _, _, _, _ => none
  | k + 1, x20, x21, x22, x30, x31, x32, x35, x36, x39, x40, x41, x42, x52, x53, x54, x55, x60, x62, x535000, x535001 => if x535000 < (x535001.size : Int) then (if 0 ≤ x535000 then (if bt x535001 x535000 < 128 then ((laws_mHas.f k x22 x535000).bind fun t535 => ((laws_mHas.f k x60 x535000).bind fun t536 => (if (t535 != t536) = true then (if x62.length < 17592186044416 then (laws_FnOrdersReach.l0 k x20 x21 x22 x30 x31 x32 x35 x36 x39 x40 x41 x42 x52 x53 x54 x55 x60 (x62 ++ [x535000]) (x535000 + 1) x535001) else (none)) else (laws_FnOrdersReach.l0 k x20 x21 x22 x30 x31 x32 x35 x36 x39 x40 x41 x42 x52 x53 x54 x55 x60 x62 (x535000 + 1) x535001)))) else (none)) else (none)) else ((impl_PlayNeighbours.f k x20 x62).bind fun bt540 => (if bt540.2 = true then (if bt540.1.toList = x21.toList then (if (x62.length : Int) < (x22.length : Int) then (some false) else (if (x62.length : Int) = (x22.length : Int) then ((laws_mBefore.f k x62 x22).bind fun t542 => (if t542 = true then (some false) else (laws_FnOrdersReach.j5 k x30 x31 x32 x35 x36 x39 x40 x41 x42 x52 x53 x54 x55))) else (laws_FnOrdersReach.j5 k x30 x31 x32 x35 x36 x39 x40 x41 x42 x52 x53 x54 x55))) else (some false)) else (some false)))
end
def laws_FnOrdersReach.f (k : Nat) (l0 : List Int) (l1 : List Int) : Option (Bool) := (laws_big.f l0 l1).bind fun t449 => (if t449 = true then (some true) else ((spec_DrawWindowsTo.f k l0).bind fun bt450 => ((impl_WindowsTo.f k bt450.1 bt450.2.1 bt450.2.2).bind fun bt453 => ((spec_WindowsTo.f k bt450.1 bt450.2.1 bt450.2.2).bind fun bt457 => ((impl_CanByWindows.f k bt450.1 bt450.2.1 bt450.2.2).bind fun bt461 => ((spec_CanByWindows.f k bt450.1 bt450.2.1 bt450.2.2).bind fun bt463 => (if (bt453.2 != bt457.2) = true then (some false) else ((laws_mSame.f k bt453.1 bt457.1).bind fun t465 => (if t465 = true then (if (bt461.2 != bt463.2) = true then (some false) else (if (bt461.1 != bt463.1) = true then (some false) else (if bt461.2 = true then (laws_FnOrdersReach.j0 k l1 bt450.1 bt450.2.1 bt450.2.2 bt453.1 bt453.2 bt461.1 bt461.2 (bt453.2 != bt461.1)) else (laws_FnOrdersReach.j0 k l1 bt450.1 bt450.2.1 bt450.2.2 bt453.1 bt453.2 bt461.1 bt461.2 (bt453.2 != false))))) else (some false))))))))))
theorem laws_FnOrdersReach.mono_l : ∀ k, (∀ y0 y1 y2 y3 y4 y5 y6 y7 y8, LeO (laws_FnOrdersReach.j0 k y0 y1 y2 y3 y4 y5 y6 y7 y8) (laws_FnOrdersReach.j0 (k + 1) y0 y1 y2 y3 y4 y5 y6 y7 y8)) ∧ (∀ y0 y1 y2 y3, LeO (laws_FnOrdersReach.j1 k y0 y1 y2 y3) (laws_FnOrdersReach.j1 (k + 1) y0 y1 y2 y3)) ∧ (∀ y0 y1, LeO (laws_FnOrdersReach.j2 k y0 y1) (laws_FnOrdersReach.j2 (k + 1) y0 y1)) ∧ (∀ y0 y1 y2 y3 y4 y5 y6 y7 y8 y9 y10 y11 y12 y13 y14 y15 y16 y17, LeO (laws_FnOrdersReach.j3 k y0 y1 y2 y3 y4 y5 y6 y7 y8 y9 y10 y11 y12 y13 y14 y15 y16 y17) (laws_FnOrdersReach.j3 (k + 1) y0 y1 y2 y3 y4 y5 y6 y7 y8 y9 y10 y11 y12 y13 y14 y15 y16 y17)) ∧ (∀ y0 y1 y2 y3 y4 y5 y6 y7 y8 y9 y10 y11 y12, LeO (laws_FnOrdersReach.j5 k y0 y1 y2 y3 y4 y5 y6 y7 y8 y9 y10 y11 y12) (laws_FnOrdersReach.j5 (k + 1) y0 y1 y2 y3 y4 y5 y6 y7 y8 y9 y10 y11 y12)) ∧ (∀ y0 y1 y2 y3 y4 y5 y6 y7 y8 y9 y10, LeO (laws_FnOrdersReach.j6 k y0 y1 y2 y3 y4 y5 y6 y7 y8 y9 y10) (laws_FnOrdersReach.j6 (k + 1) y0 y1 y2 y3 y4 y5 y6 y7 y8 y9 y10)) ∧ (∀ y0 y1 y2 y3 y4 y5 y6 y7, LeO (laws_FnOrdersReach.j8 k y0 y1 y2 y3 y4 y5 y6 y7) (laws_FnOrdersReach.j8 (k + 1) y0 y1 y2 y3 y4 y5 y6 y7)) ∧ (∀ y0 y1 y2 y3 y4, LeO (laws_FnOrdersReach.j9 k y0 y1 y2 y3 y4) (laws_FnOrdersReach.j9 (k + 1) y0 y1 y2 y3 y4)) ∧ (∀ y0 y1 y2 y3 y4, LeO (laws_FnOrdersReach.l2 k y0 y1 y2 y3 y4) (laws_FnOrdersReach.l2 (k + 1) y0 y1 y2 y3 y4)) ∧ (∀ y0 y1 y2 y3 y4 y5 y6 y7 y8 y9 y10 y11, LeO (laws_FnOrdersReach.l1 k y0 y1 y2 y3 y4 y5 y6 y7 y8 y9 y10 y11) (laws_FnOrdersReach.l1 (k + 1) y0 y1 y2 y3 y4 y5 y6 y7 y8 y9 y10 y11)) ∧ (∀ y0 y1 y2 y3 y4 y5 y6 y7 y8 y9 y10 y11 y12 y13 y14 y15 y16 y17 y18 y19, LeO (laws_FnOrdersReach.l0 k y0 y1 y2 y3 y4 y5 y6 y7 y8 y9 y10 y11 y12 y13 y14 y15 y16 y17 y18 y19) (laws_FnOrdersReach.l0 (k + 1) y0 y1 y2 y3 y4 y5 y6 y7 y8 y9 y10 y11 y12 y13 y14 y15 y16 y17 y18 y19))
  | 0 => ⟨fun _ _ _ _ _ _ _ _ _ r h => by simp [laws_FnOrdersReach.j0] at h, fun _ _ _ _ r h => by simp [laws_FnOrdersReach.j1] at h, fun _ _ r h => by simp [laws_FnOrdersReach.j2] at h, fun _ _ _ _ _ _ _ _ _ _ _ _ _ _ _ _ _ _ r h => by simp [laws_FnOrdersReach.j3] at h, fun _ _ _ _ _ _ _ _ _ _ _ _ _ r h => by simp [laws_FnOrdersReach.j5] at h, fun _ _ _ _ _ _ _ _ _ _ _ r h => by simp [laws_FnOrdersReach.j6] at h, fun _ _ _ _ _ _ _ _ r h => by simp [laws_FnOrdersReach.j8] at h, fun _ _ _ _ _ r h => by simp [laws_FnOrdersReach.j9] at h, fun _ _ _ _ _ r h => by simp [laws_FnOrdersReach.l2] at h, fun _ _ _ _ _ _ _ _ _ _ _ _ r h => by simp [laws_FnOrdersReach.l1] at h, fun _ _ _ _ _ _ _ _ _ _ _ _ _ _ _ _ _ _ _ _ r h => by simp [laws_FnOrdersReach.l0] at h⟩
  | k + 1 => by
    obtain ⟨ih0, ih1, ih2, ih3, ih4, ih5, ih6, ih7, ih8, ih9, ih10⟩ := laws_FnOrdersReach.mono_l k
    refine ⟨?_, ?_, ?_, ?_, ?_, ?_, ?_, ?_, ?_, ?_, ?_⟩
    · intro y0 y1 y2 y3 y4 y5 y6 y7 y8
      unfold laws_FnOrdersReach.j0
      repeat' first
      | (with_reducible exact ih0 _ _ _ _ _ _ _ _ _)
      | (with_reducible exact ih1 _ _ _ _)
      | (with_reducible exact ih2 _ _)
      | (with_reducible exact ih3 _ _ _ _ _ _ _ _ _ _ _ _ _ _ _ _ _ _)
      | (with_reducible exact ih4 _ _ _ _ _ _ _ _ _ _ _ _ _)
      | (with_reducible exact ih5 _ _ _ _ _ _ _ _ _ _ _)
      | (with_reducible exact ih6 _ _ _ _ _ _ _ _)
      | (with_reducible exact ih7 _ _ _ _ _)
      | (with_reducible exact ih8 _ _ _ _ _)
      | (with_reducible exact ih9 _ _ _ _ _ _ _ _ _ _ _ _)
      | (with_reducible exact ih10 _ _ _ _ _ _ _ _ _ _ _ _ _ _ _ _ _ _ _ _)
      | (with_reducible exact impl_CanByNeighbours.mono _ _ _)
      | (with_reducible exact impl_CanByWindows.mono _ _ _ _)
      | (with_reducible exact impl_CountByNeighbours.mono _ _)
      | (with_reducible exact impl_IdleOrders.mono _ _)
      | (with_reducible exact impl_NeighboursTo.mono _ _ _)
      | (with_reducible exact impl_PlayNeighbours.mono _ _ _)
      | (with_reducible exact impl_PlayWindows.mono _ _ _ _)
      | (with_reducible exact impl_WindowsTo.mono _ _ _ _)
      | (with_reducible exact laws_mBefore.mono _ _ _)
      | (with_reducible exact laws_mHas.mono _ _ _)
      | (with_reducible exact laws_mRises.mono _ _)
      | (with_reducible exact laws_mSame.mono _ _ _)
      | (with_reducible exact spec_CanByNeighbours.mono _ _ _)
      | (with_reducible exact spec_CanByWindows.mono _ _ _ _)
      | (with_reducible exact spec_CountByNeighbours.mono _ _)
      | (with_reducible exact spec_DrawNeighboursTo.mono _ _)
      | (with_reducible exact spec_DrawPlayNeighbours.mono _ _)
      | (with_reducible exact spec_DrawPlayWindows.mono _ _)
      | (with_reducible exact spec_DrawWindowsTo.mono _ _)
      | (with_reducible exact spec_IdleOrders.mono _ _)
      | (with_reducible exact spec_NeighboursTo.mono _ _ _)
      | (with_reducible exact spec_PlayNeighbours.mono _ _ _)
      | (with_reducible exact spec_PlayWindows.mono _ _ _ _)
      | (with_reducible exact spec_WindowsTo.mono _ _ _ _)
      | (with_reducible exact LeO.refl _)
      | (with_reducible exact LeO.none _)
      | (with_reducible refine LeO.ite ?_ ?_)
      | (with_reducible refine LeO.bind ?_ (fun _ => ?_))
      | exact ih0 _ _ _ _ _ _ _ _ _
      | exact ih1 _ _ _ _
      | exact ih2 _ _
      | exact ih3 _ _ _ _ _ _ _ _ _ _ _ _ _ _ _ _ _ _
      | exact ih4 _ _ _ _ _ _ _ _ _ _ _ _ _
      | exact ih5 _ _ _ _ _ _ _ _ _ _ _
      | exact ih6 _ _ _ _ _ _ _ _
      | exact ih7 _ _ _ _ _
      | exact ih8 _ _ _ _ _
      | exact ih9 _ _ _ _ _ _ _ _ _ _ _ _
      | exact ih10 _ _ _ _ _ _ _ _ _ _ _ _ _ _ _ _ _ _ _ _
      | exact impl_CanByNeighbours.mono _ _ _
      | exact impl_CanByWindows.mono _ _ _ _
      | exact impl_CountByNeighbours.mono _ _
      | exact impl_IdleOrders.mono _ _
      | exact impl_NeighboursTo.mono _ _ _
      | exact impl_PlayNeighbours.mono _ _ _
      | exact impl_PlayWindows.mono _ _ _ _
      | exact impl_WindowsTo.mono _ _ _ _
      | exact laws_mBefore.mono _ _ _
      | exact laws_mHas.mono _ _ _
      | exact laws_mRises.mono _ _
      | exact laws_mSame.mono _ _ _
      | exact spec_CanByNeighbours.mono _ _ _
      | exact spec_CanByWindows.mono _ _ _ _
      | exact spec_CountByNeighbours.mono _ _
      | exact spec_DrawNeighboursTo.mono _ _
      | exact spec_DrawPlayNeighbours.mono _ _
      | exact spec_DrawPlayWindows.mono _ _
      | exact spec_DrawWindowsTo.mono _ _
      | exact spec_IdleOrders.mono _ _
      | exact spec_NeighboursTo.mono _ _ _
      | exact spec_PlayNeighbours.mono _ _ _
      | exact spec_PlayWindows.mono _ _ _ _
      | exact spec_WindowsTo.mono _ _ _ _
      | exact LeO.none _
      | refine LeO.ite ?_ ?_
      | refine LeO.bind ?_ (fun _ => ?_)
    · intro y0 y1 y2 y3
      unfold laws_FnOrdersReach.j1
      repeat' first
      | (with_reducible exact ih0 _ _ _ _ _ _ _ _ _)
      | (with_reducible exact ih1 _ _ _ _)
      | (with_reducible exact ih2 _ _)
      | (with_reducible exact ih3 _ _ _ _ _ _ _ _ _ _ _ _ _ _ _ _ _ _)
      | (with_reducible exact ih4 _ _ _ _ _ _ _ _ _ _ _ _ _)
      | (with_reducible exact ih5 _ _ _ _ _ _ _ _ _ _ _)
      | (with_reducible exact ih6 _ _ _ _ _ _ _ _)
      | (with_reducible exact ih7 _ _ _ _ _)
      | (with_reducible exact ih8 _ _ _ _ _)
      | (with_reducible exact ih9 _ _ _ _ _ _ _ _ _ _ _ _)
      | (with_reducible exact ih10 _ _ _ _ _ _ _ _ _ _ _ _ _ _ _ _ _ _ _ _)
      | (with_reducible exact impl_CanByNeighbours.mono _ _ _)
      | (with_reducible exact impl_CanByWindows.mono _ _ _ _)
      | (with_reducible exact impl_CountByNeighbours.mono _ _)
      | (with_reducible exact impl_IdleOrders.mono _ _)
      | (with_reducible exact impl_NeighboursTo.mono _ _ _)
      | (with_reducible exact impl_PlayNeighbours.mono _ _ _)
      | (with_reducible exact impl_PlayWindows.mono _ _ _ _)
      | (with_reducible exact impl_WindowsTo.mono _ _ _ _)
      | (with_reducible exact laws_mBefore.mono _ _ _)
      | (with_reducible exact laws_mHas.mono _ _ _)
      | (with_reducible exact laws_mRises.mono _ _)
      | (with_reducible exact laws_mSame.mono _ _ _)
      | (with_reducible exact spec_CanByNeighbours.mono _ _ _)
      | (with_reducible exact spec_CanByWindows.mono _ _ _ _)
      | (with_reducible exact spec_CountByNeighbours.mono _ _)
      | (with_reducible exact spec_DrawNeighboursTo.mono _ _)
      | (with_reducible exact spec_DrawPlayNeighbours.mono _ _)
      | (with_reducible exact spec_DrawPlayWindows.mono _ _)
      | (with_reducible exact spec_DrawWindowsTo.mono _ _)
      | (with_reducible exact spec_IdleOrders.mono _ _)
      | (with_reducible exact spec_NeighboursTo.mono _ _ _)
      | (with_reducible exact spec_PlayNeighbours.mono _ _ _)
      | (with_reducible exact spec_PlayWindows.mono _ _ _ _)
      | (with_reducible exact spec_WindowsTo.mono _ _ _ _)
      | (with_reducible exact LeO.refl _)
      | (with_reducible exact LeO.none _)
      | (with_reducible refine LeO.ite ?_ ?_)
      | (with_reducible refine LeO.bind ?_ (fun _ => ?_))
      | exact ih0 _ _ _ _ _ _ _ _ _
      | exact ih1 _ _ _ _
      | exact ih2 _ _
      | exact ih3 _ _ _ _ _ _ _ _ _ _ _ _ _ _ _ _ _ _
      | exact ih4 _ _ _ _ _ _ _ _ _ _ _ _ _
      | exact ih5 _ _ _ _ _ _ _ _ _ _ _
      | exact ih6 _ _ _ _ _ _ _ _
      | exact ih7 _ _ _ _ _
      | exact ih8 _ _ _ _ _
      | exact ih9 _ _ _ _ _ _ _ _ _ _ _ _
      | exact ih10 _ _ _ _ _ _ _ _ _ _ _ _ _ _ _ _ _ _ _ _
      | exact impl_CanByNeighbours.mono _ _ _
      | exact impl_CanByWindows.mono _ _ _ _
      | exact impl_CountByNeighbours.mono _ _
      | exact impl_IdleOrders.mono _ _
      | exact impl_NeighboursTo.mono _ _ _
      | exact impl_PlayNeighbours.mono _ _ _
      | exact impl_PlayWindows.mono _ _ _ _
      | exact impl_WindowsTo.mono _ _ _ _
      | exact laws_mBefore.mono _ _ _
      | exact laws_mHas.mono _ _ _
      | exact laws_mRises.mono _ _
      | exact laws_mSame.mono _ _ _
      | exact spec_CanByNeighbours.mono _ _ _
      | exact spec_CanByWindows.mono _ _ _ _
      | exact spec_CountByNeighbours.mono _ _
      | exact spec_DrawNeighboursTo.mono _ _
      | exact spec_DrawPlayNeighbours.mono _ _
      | exact spec_DrawPlayWindows.mono _ _
      | exact spec_DrawWindowsTo.mono _ _
      | exact spec_IdleOrders.mono _ _
      | exact spec_NeighboursTo.mono _ _ _
      | exact spec_PlayNeighbours.mono _ _ _
      | exact spec_PlayWindows.mono _ _ _ _
      | exact spec_WindowsTo.mono _ _ _ _
      | exact LeO.none _
      | refine LeO.ite ?_ ?_
      | refine LeO.bind ?_ (fun _ => ?_)
    · intro y0 y1
      unfold laws_FnOrdersReach.j2
      repeat' first
      | (with_reducible exact ih0 _ _ _ _ _ _ _ _ _)
      | (with_reducible exact ih1 _ _ _ _)
      | (with_reducible exact ih2 _ _)
      | (with_reducible exact ih3 _ _ _ _ _ _ _ _ _ _ _ _ _ _ _ _ _ _)
      | (with_reducible exact ih4 _ _ _ _ _ _ _ _ _ _ _ _ _)
      | (with_reducible exact ih5 _ _ _ _ _ _ _ _ _ _ _)
      | (with_reducible exact ih6 _ _ _ _ _ _ _ _)
      | (with_reducible exact ih7 _ _ _ _ _)
      | (with_reducible exact ih8 _ _ _ _ _)
      | (with_reducible exact ih9 _ _ _ _ _ _ _ _ _ _ _ _)
      | (with_reducible exact ih10 _ _ _ _ _ _ _ _ _ _ _ _ _ _ _ _ _ _ _ _)
      | (with_reducible exact impl_CanByNeighbours.mono _ _ _)
      | (with_reducible exact impl_CanByWindows.mono _ _ _ _)
      | (with_reducible exact impl_CountByNeighbours.mono _ _)
      | (with_reducible exact impl_IdleOrders.mono _ _)
      | (with_reducible exact impl_NeighboursTo.mono _ _ _)
      | (with_reducible exact impl_PlayNeighbours.mono _ _ _)
      | (with_reducible exact impl_PlayWindows.mono _ _ _ _)
      | (with_reducible exact impl_WindowsTo.mono _ _ _ _)
      | (with_reducible exact laws_mBefore.mono _ _ _)
      | (with_reducible exact laws_mHas.mono _ _ _)
      | (with_reducible exact laws_mRises.mono _ _)
      | (with_reducible exact laws_mSame.mono _ _ _)
      | (with_reducible exact spec_CanByNeighbours.mono _ _ _)
      | (with_reducible exact spec_CanByWindows.mono _ _ _ _)
      | (with_reducible exact spec_CountByNeighbours.mono _ _)
      | (with_reducible exact spec_DrawNeighboursTo.mono _ _)
      | (with_reducible exact spec_DrawPlayNeighbours.mono _ _)
      | (with_reducible exact spec_DrawPlayWindows.mono _ _)
      | (with_reducible exact spec_DrawWindowsTo.mono _ _)
      | (with_reducible exact spec_IdleOrders.mono _ _)
      | (with_reducible exact spec_NeighboursTo.mono _ _ _)
      | (with_reducible exact spec_PlayNeighbours.mono _ _ _)
      | (with_reducible exact spec_PlayWindows.mono _ _ _ _)
      | (with_reducible exact spec_WindowsTo.mono _ _ _ _)
      | (with_reducible exact LeO.refl _)
      | (with_reducible exact LeO.none _)
      | (with_reducible refine LeO.ite ?_ ?_)
      | (with_reducible refine LeO.bind ?_ (fun _ => ?_))
      | exact ih0 _ _ _ _ _ _ _ _ _
      | exact ih1 _ _ _ _
      | exact ih2 _ _
      | exact ih3 _ _ _ _ _ _ _ _ _ _ _ _ _ _ _ _ _ _
      | exact ih4 _ _ _ _ _ _ _ _ _ _ _ _ _
      | exact ih5 _ _ _ _ _ _ _ _ _ _ _
      | exact ih6 _ _ _ _ _ _ _ _
      | exact ih7 _ _ _ _ _
      | exact ih8 _ _ _ _ _
      | exact ih9 _ _ _ _ _ _ _ _ _ _ _ _
      | exact ih10 _ _ _ _ _ _ _ _ _ _ _ _ _ _ _ _ _ _ _ _
      | exact impl_CanByNeighbours.mono _ _ _
      | exact impl_CanByWindows.mono _ _ _ _
      | exact impl_CountByNeighbours.mono _ _
      | exact impl_IdleOrders.mono _ _
      | exact impl_NeighboursTo.mono _ _ _
      | exact impl_PlayNeighbours.mono _ _ _
      | exact impl_PlayWindows.mono _ _ _ _
      | exact impl_WindowsTo.mono _ _ _ _
      | exact laws_mBefore.mono _ _ _
      | exact laws_mHas.mono _ _ _
      | exact laws_mRises.mono _ _
      | exact laws_mSame.mono _ _ _
      | exact spec_CanByNeighbours.mono _ _ _
      | exact spec_CanByWindows.mono _ _ _ _
      | exact spec_CountByNeighbours.mono _ _
      | exact spec_DrawNeighboursTo.mono _ _
      | exact spec_DrawPlayNeighbours.mono _ _
      | exact spec_DrawPlayWindows.mono _ _
      | exact spec_DrawWindowsTo.mono _ _
      | exact spec_IdleOrders.mono _ _
      | exact spec_NeighboursTo.mono _ _ _
      | exact spec_PlayNeighbours.mono _ _ _
      | exact spec_PlayWindows.mono _ _ _ _
      | exact spec_WindowsTo.mono _ _ _ _
      | exact LeO.none _
      | refine LeO.ite ?_ ?_
      | refine LeO.bind ?_ (fun _ => ?_)
    · intro y0 y1 y2 y3 y4 y5 y6 y7 y8 y9 y10 y11 y12 y13 y14 y15 y16 y17
      unfold laws_FnOrdersReach.j3
      repeat' first
      | (with_reducible exact ih0 _ _ _ _ _ _ _ _ _)
      | (with_reducible exact ih1 _ _ _ _)
      | (with_reducible exact ih2 _ _)
      | (with_reducible exact ih3 _ _ _ _ _ _ _ _ _ _ _ _ _ _ _ _ _ _)
      | (with_reducible exact ih4 _ _ _ _ _ _ _ _ _ _ _ _ _)
      | (with_reducible exact ih5 _ _ _ _ _ _ _ _ _ _ _)
      | (with_reducible exact ih6 _ _ _ _ _ _ _ _)
      | (with_reducible exact ih7 _ _ _ _ _)
      | (with_reducible exact ih8 _ _ _ _ _)
      | (with_reducible exact ih9 _ _ _ _ _ _ _ _ _ _ _ _)
      | (with_reducible exact ih10 _ _ _ _ _ _ _ _ _ _ _ _ _ _ _ _ _ _ _ _)
      | (with_reducible exact impl_CanByNeighbours.mono _ _ _)
      | (with_reducible exact impl_CanByWindows.mono _ _ _ _)
      | (with_reducible exact impl_CountByNeighbours.mono _ _)
      | (with_reducible exact impl_IdleOrders.mono _ _)
      | (with_reducible exact impl_NeighboursTo.mono _ _ _)
      | (with_reducible exact impl_PlayNeighbours.mono _ _ _)
      | (with_reducible exact impl_PlayWindows.mono _ _ _ _)
      | (with_reducible exact impl_WindowsTo.mono _ _ _ _)
      | (with_reducible exact laws_mBefore.mono _ _ _)
      | (with_reducible exact laws_mHas.mono _ _ _)
      | (with_reducible exact laws_mRises.mono _ _)
      | (with_reducible exact laws_mSame.mono _ _ _)
      | (with_reducible exact spec_CanByNeighbours.mono _ _ _)
      | (with_reducible exact spec_CanByWindows.mono _ _ _ _)
      | (with_reducible exact spec_CountByNeighbours.mono _ _)
      | (with_reducible exact spec_DrawNeighboursTo.mono _ _)
      | (with_reducible exact spec_DrawPlayNeighbours.mono _ _)
      | (with_reducible exact spec_DrawPlayWindows.mono _ _)
      | (with_reducible exact spec_DrawWindowsTo.mono _ _)
      | (with_reducible exact spec_IdleOrders.mono _ _)
      | (with_reducible exact spec_NeighboursTo.mono _ _ _)
      | (with_reducible exact spec_PlayNeighbours.mono _ _ _)
      | (with_reducible exact spec_PlayWindows.mono _ _ _ _)
      | (with_reducible exact spec_WindowsTo.mono _ _ _ _)
      | (with_reducible exact LeO.refl _)
      | (with_reducible exact LeO.none _)
      | (with_reducible refine LeO.ite ?_ ?_)
      | (with_reducible refine LeO.bind ?_ (fun _ => ?_))
      | exact ih0 _ _ _ _ _ _ _ _ _
      | exact ih1 _ _ _ _
      | exact ih2 _ _
      | exact ih3 _ _ _ _ _ _ _ _ _ _ _ _ _ _ _ _ _ _
      | exact ih4 _ _ _ _ _ _ _ _ _ _ _ _ _
      | exact ih5 _ _ _ _ _ _ _ _ _ _ _
      | exact ih6 _ _ _ _ _ _ _ _
      | exact ih7 _ _ _ _ _
      | exact ih8 _ _ _ _ _
      | exact ih9 _ _ _ _ _ _ _ _ _ _ _ _
      | exact ih10 _ _ _ _ _ _ _ _ _ _ _ _ _ _ _ _ _ _ _ _
      | exact impl_CanByNeighbours.mono _ _ _
      | exact impl_CanByWindows.mono _ _ _ _
      | exact impl_CountByNeighbours.mono _ _
      | exact impl_IdleOrders.mono _ _
      | exact impl_NeighboursTo.mono _ _ _
      | exact impl_PlayNeighbours.mono _ _ _
      | exact impl_PlayWindows.mono _ _ _ _
      | exact impl_WindowsTo.mono _ _ _ _
      | exact laws_mBefore.mono _ _ _
      | exact laws_mHas.mono _ _ _
      | exact laws_mRises.mono _ _
      | exact laws_mSame.mono _ _ _
      | exact spec_CanByNeighbours.mono _ _ _
      | exact spec_CanByWindows.mono _ _ _ _
      | exact spec_CountByNeighbours.mono _ _
      | exact spec_DrawNeighboursTo.mono _ _
      | exact spec_DrawPlayNeighbours.mono _ _
      | exact spec_DrawPlayWindows.mono _ _
      | exact spec_DrawWindowsTo.mono _ _
      | exact spec_IdleOrders.mono _ _
      | exact spec_NeighboursTo.mono _ _ _
      | exact spec_PlayNeighbours.mono _ _ _
      | exact spec_PlayWindows.mono _ _ _ _
      | exact spec_WindowsTo.mono _ _ _ _
      | exact LeO.none _
      | refine LeO.ite ?_ ?_
      | refine LeO.bind ?_ (fun _ => ?_)
    · intro y0 y1 y2 y3 y4 y5 y6 y7 y8 y9 y10 y11 y12
      unfold laws_FnOrdersReach.j5
      repeat' first
      | (with_reducible exact ih0 _ _ _ _ _ _ _ _ _)
      | (with_reducible exact ih1 _ _ _ _)
      | (with_reducible exact ih2 _ _)
      | (with_reducible exact ih3 _ _ _ _ _ _ _ _ _ _ _ _ _ _ _ _ _ _)
      | (with_reducible exact ih4 _ _ _ _ _ _ _ _ _ _ _ _ _)
      | (with_reducible exact ih5 _ _ _ _ _ _ _ _ _ _ _)
      | (with_reducible exact ih6 _ _ _ _ _ _ _ _)
      | (with_reducible exact ih7 _ _ _ _ _)
      | (with_reducible exact ih8 _ _ _ _ _)
      | (with_reducible exact ih9 _ _ _ _ _ _ _ _ _ _ _ _)
      | (with_reducible exact ih10 _ _ _ _ _ _ _ _ _ _ _ _ _ _ _ _ _ _ _ _)
      | (with_reducible exact impl_CanByNeighbours.mono _ _ _)
      | (with_reducible exact impl_CanByWindows.mono _ _ _ _)
      | (with_reducible exact impl_CountByNeighbours.mono _ _)
      | (with_reducible exact impl_IdleOrders.mono _ _)
      | (with_reducible exact impl_NeighboursTo.mono _ _ _)
      | (with_reducible exact impl_PlayNeighbours.mono _ _ _)
      | (with_reducible exact impl_PlayWindows.mono _ _ _ _)
      | (with_reducible exact impl_WindowsTo.mono _ _ _ _)
      | (with_reducible exact laws_mBefore.mono _ _ _)
      | (with_reducible exact laws_mHas.mono _ _ _)
      | (with_reducible exact laws_mRises.mono _ _)
      | (with_reducible exact laws_mSame.mono _ _ _)
      | (with_reducible exact spec_CanByNeighbours.mono _ _ _)
      | (with_reducible exact spec_CanByWindows.mono _ _ _ _)
      | (with_reducible exact spec_CountByNeighbours.mono _ _)
      | (with_reducible exact spec_DrawNeighboursTo.mono _ _)
      | (with_reducible exact spec_DrawPlayNeighbours.mono _ _)
      | (with_reducible exact spec_DrawPlayWindows.mono _ _)
      | (with_reducible exact spec_DrawWindowsTo.mono _ _)
      | (with_reducible exact spec_IdleOrders.mono _ _)
      | (with_reducible exact spec_NeighboursTo.mono _ _ _)
      | (with_reducible exact spec_PlayNeighbours.mono _ _ _)
      | (with_reducible exact spec_PlayWindows.mono _ _ _ _)
      | (with_reducible exact spec_WindowsTo.mono _ _ _ _)
      | (with_reducible exact LeO.refl _)
      | (with_reducible exact LeO.none _)
      | (with_reducible refine LeO.ite ?_ ?_)
      | (with_reducible refine LeO.bind ?_ (fun _ => ?_))
      | exact ih0 _ _ _ _ _ _ _ _ _
      | exact ih1 _ _ _ _
      | exact ih2 _ _
      | exact ih3 _ _ _ _ _ _ _ _ _ _ _ _ _ _ _ _ _ _
      | exact ih4 _ _ _ _ _ _ _ _ _ _ _ _ _
      | exact ih5 _ _ _ _ _ _ _ _ _ _ _
      | exact ih6 _ _ _ _ _ _ _ _
      | exact ih7 _ _ _ _ _
      | exact ih8 _ _ _ _ _
      | exact ih9 _ _ _ _ _ _ _ _ _ _ _ _
      | exact ih10 _ _ _ _ _ _ _ _ _ _ _ _ _ _ _ _ _ _ _ _
      | exact impl_CanByNeighbours.mono _ _ _
      | exact impl_CanByWindows.mono _ _ _ _
      | exact impl_CountByNeighbours.mono _ _
      | exact impl_IdleOrders.mono _ _
      | exact impl_NeighboursTo.mono _ _ _
      | exact impl_PlayNeighbours.mono _ _ _
      | exact impl_PlayWindows.mono _ _ _ _
      | exact impl_WindowsTo.mono _ _ _ _
      | exact laws_mBefore.mono _ _ _
      | exact laws_mHas.mono _ _ _
      | exact laws_mRises.mono _ _
      | exact laws_mSame.mono _ _ _
      | exact spec_CanByNeighbours.mono _ _ _
      | exact spec_CanByWindows.mono _ _ _ _
      | exact spec_CountByNeighbours.mono _ _
      | exact spec_DrawNeighboursTo.mono _ _
      | exact spec_DrawPlayNeighbours.mono _ _
      | exact spec_DrawPlayWindows.mono _ _
      | exact spec_DrawWindowsTo.mono _ _
      | exact spec_IdleOrders.mono _ _
      | exact spec_NeighboursTo.mono _ _ _
      | exact spec_PlayNeighbours.mono _ _ _
      | exact spec_PlayWindows.mono _ _ _ _
      | exact spec_WindowsTo.mono _ _ _ _
      | exact LeO.none _
      | refine LeO.ite ?_ ?_
      | refine LeO.bind ?_ (fun _ => ?_)
    · intro y0 y1 y2 y3 y4 y5 y6 y7 y8 y9 y10
      unfold laws_FnOrdersReach.j6
      repeat' first
      | (with_reducible exact ih0 _ _ _ _ _ _ _ _ _)
      | (with_reducible exact ih1 _ _ _ _)
      | (with_reducible exact ih2 _ _)
      | (with_reducible exact ih3 _ _ _ _ _ _ _ _ _ _ _ _ _ _ _ _ _ _)
      | (with_reducible exact ih4 _ _ _ _ _ _ _ _ _ _ _ _ _)
      | (with_reducible exact ih5 _ _ _ _ _ _ _ _ _ _ _)
      | (with_reducible exact ih6 _ _ _ _ _ _ _ _)
      | (with_reducible exact ih7 _ _ _ _ _)
      | (with_reducible exact ih8 _ _ _ _ _)
      | (with_reducible exact ih9 _ _ _ _ _ _ _ _ _ _ _ _)
      | (with_reducible exact ih10 _ _ _ _ _ _ _ _ _ _ _ _ _ _ _ _ _ _ _ _)
      | (with_reducible exact impl_CanByNeighbours.mono _ _ _)
      | (with_reducible exact impl_CanByWindows.mono _ _ _ _)
      | (with_reducible exact impl_CountByNeighbours.mono _ _)
      | (with_reducible exact impl_IdleOrders.mono _ _)
      | (with_reducible exact impl_NeighboursTo.mono _ _ _)
      | (with_reducible exact impl_PlayNeighbours.mono _ _ _)
      | (with_reducible exact impl_PlayWindows.mono _ _ _ _)
      | (with_reducible exact impl_WindowsTo.mono _ _ _ _)
      | (with_reducible exact laws_mBefore.mono _ _ _)
      | (with_reducible exact laws_mHas.mono _ _ _)
      | (with_reducible exact laws_mRises.mono _ _)
      | (with_reducible exact laws_mSame.mono _ _ _)
      | (with_reducible exact spec_CanByNeighbours.mono _ _ _)
      | (with_reducible exact spec_CanByWindows.mono _ _ _ _)
      | (with_reducible exact spec_CountByNeighbours.mono _ _)
      | (with_reducible exact spec_DrawNeighboursTo.mono _ _)
      | (with_reducible exact spec_DrawPlayNeighbours.mono _ _)
      | (with_reducible exact spec_DrawPlayWindows.mono _ _)
      | (with_reducible exact spec_DrawWindowsTo.mono _ _)
      | (with_reducible exact spec_IdleOrders.mono _ _)
      | (with_reducible exact spec_NeighboursTo.mono _ _ _)
      | (with_reducible exact spec_PlayNeighbours.mono _ _ _)
      | (with_reducible exact spec_PlayWindows.mono _ _ _ _)
      | (with_reducible exact spec_WindowsTo.mono _ _ _ _)
      | (with_reducible exact LeO.refl _)
      | (with_reducible exact LeO.none _)
      | (with_reducible refine LeO.ite ?_ ?_)
      | (with_reducible refine LeO.bind ?_ (fun _ => ?_))
      | exact ih0 _ _ _ _ _ _ _ _ _
      | exact ih1 _ _ _ _
      | exact ih2 _ _
      | exact ih3 _ _ _ _ _ _ _ _ _ _ _ _ _ _ _ _ _ _
      | exact ih4 _ _ _ _ _ _ _ _ _ _ _ _ _
      | exact ih5 _ _ _ _ _ _ _ _ _ _ _
      | exact ih6 _ _ _ _ _ _ _ _
      | exact ih7 _ _ _ _ _
      | exact ih8 _ _ _ _ _
      | exact ih9 _ _ _ _ _ _ _ _ _ _ _ _
      | exact ih10 _ _ _ _ _ _ _ _ _ _ _ _ _ _ _ _ _ _ _ _
      | exact impl_CanByNeighbours.mono _ _ _
      | exact impl_CanByWindows.mono _ _ _ _
      | exact impl_CountByNeighbours.mono _ _
      | exact impl_IdleOrders.mono _ _
      | exact impl_NeighboursTo.mono _ _ _
      | exact impl_PlayNeighbours.mono _ _ _
      | exact impl_PlayWindows.mono _ _ _ _
      | exact impl_WindowsTo.mono _ _ _ _
      | exact laws_mBefore.mono _ _ _
      | exact laws_mHas.mono _ _ _
      | exact laws_mRises.mono _ _
      | exact laws_mSame.mono _ _ _
      | exact spec_CanByNeighbours.mono _ _ _
      | exact spec_CanByWindows.mono _ _ _ _
      | exact spec_CountByNeighbours.mono _ _
      | exact spec_DrawNeighboursTo.mono _ _
      | exact spec_DrawPlayNeighbours.mono _ _
      | exact spec_DrawPlayWindows.mono _ _
      | exact spec_DrawWindowsTo.mono _ _
      | exact spec_IdleOrders.mono _ _
      | exact spec_NeighboursTo.mono _ _ _
      | exact spec_PlayNeighbours.mono _ _ _
      | exact spec_PlayWindows.mono _ _ _ _
      | exact spec_WindowsTo.mono _ _ _ _
      | exact LeO.none _
      | refine LeO.ite ?_ ?_
      | refine LeO.bind ?_ (fun _ => ?_)
    · intro y0 y1 y2 y3 y4 y5 y6 y7
      unfold laws_FnOrdersReach.j8
      repeat' first
      | (with_reducible exact ih0 _ _ _ _ _ _ _ _ _)
      | (with_reducible exact ih1 _ _ _ _)
      | (with_reducible exact ih2 _ _)
      | (with_reducible exact ih3 _ _ _ _ _ _ _ _ _ _ _ _ _ _ _ _ _ _)
      | (with_reducible exact ih4 _ _ _ _ _ _ _ _ _ _ _ _ _)
      | (with_reducible exact ih5 _ _ _ _ _ _ _ _ _ _ _)
      | (with_reducible exact ih6 _ _ _ _ _ _ _ _)
      | (with_reducible exact ih7 _ _ _ _ _)
      | (with_reducible exact ih8 _ _ _ _ _)
      | (with_reducible exact ih9 _ _ _ _ _ _ _ _ _ _ _ _)
      | (with_reducible exact ih10 _ _ _ _ _ _ _ _ _ _ _ _ _ _ _ _ _ _ _ _)
      | (with_reducible exact impl_CanByNeighbours.mono _ _ _)
      | (with_reducible exact impl_CanByWindows.mono _ _ _ _)
      | (with_reducible exact impl_CountByNeighbours.mono _ _)
      | (with_reducible exact impl_IdleOrders.mono _ _)
      | (with_reducible exact impl_NeighboursTo.mono _ _ _)
      | (with_reducible exact impl_PlayNeighbours.mono _ _ _)
      | (with_reducible exact impl_PlayWindows.mono _ _ _ _)
      | (with_reducible exact impl_WindowsTo.mono _ _ _ _)
      | (with_reducible exact laws_mBefore.mono _ _ _)
      | (with_reducible exact laws_mHas.mono _ _ _)
      | (with_reducible exact laws_mRises.mono _ _)
      | (with_reducible exact laws_mSame.mono _ _ _)
      | (with_reducible exact spec_CanByNeighbours.mono _ _ _)
      | (with_reducible exact spec_CanByWindows.mono _ _ _ _)
      | (with_reducible exact spec_CountByNeighbours.mono _ _)
      | (with_reducible exact spec_DrawNeighboursTo.mono _ _)
      | (with_reducible exact spec_DrawPlayNeighbours.mono _ _)
      | (with_reducible exact spec_DrawPlayWindows.mono _ _)
      | (with_reducible exact spec_DrawWindowsTo.mono _ _)
      | (with_reducible exact spec_IdleOrders.mono _ _)
      | (with_reducible exact spec_NeighboursTo.mono _ _ _)
      | (with_reducible exact spec_PlayNeighbours.mono _ _ _)
      | (with_reducible exact spec_PlayWindows.mono _ _ _ _)
      | (with_reducible exact spec_WindowsTo.mono _ _ _ _)
      | (with_reducible exact LeO.refl _)
      | (with_reducible exact LeO.none _)
      | (with_reducible refine LeO.ite ?_ ?_)
      | (with_reducible refine LeO.bind ?_ (fun _ => ?_))
      | exact ih0 _ _ _ _ _ _ _ _ _
      | exact ih1 _ _ _ _
      | exact ih2 _ _
      | exact ih3 _ _ _ _ _ _ _ _ _ _ _ _ _ _ _ _ _ _
      | exact ih4 _ _ _ _ _ _ _ _ _ _ _ _ _
      | exact ih5 _ _ _ _ _ _ _ _ _ _ _
      | exact ih6 _ _ _ _ _ _ _ _
      | exact ih7 _ _ _ _ _
      | exact ih8 _ _ _ _ _
      | exact ih9 _ _ _ _ _ _ _ _ _ _ _ _
      | exact ih10 _ _ _ _ _ _ _ _ _ _ _ _ _ _ _ _ _ _ _ _
      | exact impl_CanByNeighbours.mono _ _ _
      | exact impl_CanByWindows.mono _ _ _ _
      | exact impl_CountByNeighbours.mono _ _
      | exact impl_IdleOrders.mono _ _
      | exact impl_NeighboursTo.mono _ _ _
      | exact impl_PlayNeighbours.mono _ _ _
      | exact impl_PlayWindows.mono _ _ _ _
      | exact impl_WindowsTo.mono _ _ _ _
      | exact laws_mBefore.mono _ _ _
      | exact laws_mHas.mono _ _ _
      | exact laws_mRises.mono _ _
      | exact laws_mSame.mono _ _ _
      | exact spec_CanByNeighbours.mono _ _ _
      | exact spec_CanByWindows.mono _ _ _ _
      | exact spec_CountByNeighbours.mono _ _
      | exact spec_DrawNeighboursTo.mono _ _
      | exact spec_DrawPlayNeighbours.mono _ _
      | exact spec_DrawPlayWindows.mono _ _
      | exact spec_DrawWindowsTo.mono _ _
      | exact spec_IdleOrders.mono _ _
      | exact spec_NeighboursTo.mono _ _ _
      | exact spec_PlayNeighbours.mono _ _ _
      | exact spec_PlayWindows.mono _ _ _ _
      | exact spec_WindowsTo.mono _ _ _ _
      | exact LeO.none _
      | refine LeO.ite ?_ ?_
      | refine LeO.bind ?_ (fun _ => ?_)
    · intro y0 y1 y2 y3 y4
      unfold laws_FnOrdersReach.j9
      repeat' first
      | (with_reducible exact ih0 _ _ _ _ _ _ _ _ _)
      | (with_reducible exact ih1 _ _ _ _)
      | (with_reducible exact ih2 _ _)
      | (with_reducible exact ih3 _ _ _ _ _ _ _ _ _ _ _ _ _ _ _ _ _ _)
      | (with_reducible exact ih4 _ _ _ _ _ _ _ _ _ _ _ _ _)
      | (with_reducible exact ih5 _ _ _ _ _ _ _ _ _ _ _)
      | (with_reducible exact ih6 _ _ _ _ _ _ _ _)
      | (with_reducible exact ih7 _ _ _ _ _)
      | (with_reducible exact ih8 _ _ _ _ _)
      | (with_reducible exact ih9 _ _ _ _ _ _ _ _ _ _ _ _)
      | (with_reducible exact ih10 _ _ _ _ _ _ _ _ _ _ _ _ _ _ _ _ _ _ _ _)
      | (with_reducible exact impl_CanByNeighbours.mono _ _ _)
      | (with_reducible exact impl_CanByWindows.mono _ _ _ _)
      | (with_reducible exact impl_CountByNeighbours.mono _ _)
      | (with_reducible exact impl_IdleOrders.mono _ _)
      | (with_reducible exact impl_NeighboursTo.mono _ _ _)
      | (with_reducible exact impl_PlayNeighbours.mono _ _ _)
      | (with_reducible exact impl_PlayWindows.mono _ _ _ _)
      | (with_reducible exact impl_WindowsTo.mono _ _ _ _)
      | (with_reducible exact laws_mBefore.mono _ _ _)
      | (with_reducible exact laws_mHas.mono _ _ _)
      | (with_reducible exact laws_mRises.mono _ _)
      | (with_reducible exact laws_mSame.mono _ _ _)
      | (with_reducible exact spec_CanByNeighbours.mono _ _ _)
      | (with_reducible exact spec_CanByWindows.mono _ _ _ _)
      | (with_reducible exact spec_CountByNeighbours.mono _ _)
      | (with_reducible exact spec_DrawNeighboursTo.mono _ _)
      | (with_reducible exact spec_DrawPlayNeighbours.mono _ _)
      | (with_reducible exact spec_DrawPlayWindows.mono _ _)
      | (with_reducible exact spec_DrawWindowsTo.mono _ _)
      | (with_reducible exact spec_IdleOrders.mono _ _)
      | (with_reducible exact spec_NeighboursTo.mono _ _ _)
      | (with_reducible exact spec_PlayNeighbours.mono _ _ _)
      | (with_reducible exact spec_PlayWindows.mono _ _ _ _)
      | (with_reducible exact spec_WindowsTo.mono _ _ _ _)
      | (with_reducible exact LeO.refl _)
      | (with_reducible exact LeO.none _)
      | (with_reducible refine LeO.ite ?_ ?_)
      | (with_reducible refine LeO.bind ?_ (fun _ => ?_))
      | exact ih0 _ _ _ _ _ _ _ _ _
      | exact ih1 _ _ _ _
      | exact ih2 _ _
      | exact ih3 _ _ _ _ _ _ _ _ _ _ _ _ _ _ _ _ _ _
      | exact ih4 _ _ _ _ _ _ _ _ _ _ _ _ _
      | exact ih5 _ _ _ _ _ _ _ _ _ _ _
      | exact ih6 _ _ _ _ _ _ _ _
      | exact ih7 _ _ _ _ _
      | exact ih8 _ _ _ _ _
      | exact ih9 _ _ _ _ _ _ _ _ _ _ _ _
      | exact ih10 _ _ _ _ _ _ _ _ _ _ _ _ _ _ _ _ _ _ _ _
      | exact impl_CanByNeighbours.mono _ _ _
      | exact impl_CanByWindows.mono _ _ _ _
      | exact impl_CountByNeighbours.mono _ _
      | exact impl_IdleOrders.mono _ _
      | exact impl_NeighboursTo.mono _ _ _
      | exact impl_PlayNeighbours.mono _ _ _
      | exact impl_PlayWindows.mono _ _ _ _
      | exact impl_WindowsTo.mono _ _ _ _
      | exact laws_mBefore.mono _ _ _
      | exact laws_mHas.mono _ _ _
      | exact laws_mRises.mono _ _
      | exact laws_mSame.mono _ _ _
      | exact spec_CanByNeighbours.mono _ _ _
      | exact spec_CanByWindows.mono _ _ _ _
      | exact spec_CountByNeighbours.mono _ _
      | exact spec_DrawNeighboursTo.mono _ _
      | exact spec_DrawPlayNeighbours.mono _ _
      | exact spec_DrawPlayWindows.mono _ _
      | exact spec_DrawWindowsTo.mono _ _
      | exact spec_IdleOrders.mono _ _
      | exact spec_NeighboursTo.mono _ _ _
      | exact spec_PlayNeighbours.mono _ _ _
      | exact spec_PlayWindows.mono _ _ _ _
      | exact spec_WindowsTo.mono _ _ _ _
      | exact LeO.none _
      | refine LeO.ite ?_ ?_
      | refine LeO.bind ?_ (fun _ => ?_)
    · intro y0 y1 y2 y3 y4
      unfold laws_FnOrdersReach.l2
      repeat' first
      | (with_reducible exact ih0 _ _ _ _ _ _ _ _ _)
      | (with_reducible exact ih1 _ _ _ _)
      | (with_reducible exact ih2 _ _)
      | (with_reducible exact ih3 _ _ _ _ _ _ _ _ _ _ _ _ _ _ _ _ _ _)
      | (with_reducible exact ih4 _ _ _ _ _ _ _ _ _ _ _ _ _)
      | (with_reducible exact ih5 _ _ _ _ _ _ _ _ _ _ _)
      | (with_reducible exact ih6 _ _ _ _ _ _ _ _)
      | (with_reducible exact ih7 _ _ _ _ _)
      | (with_reducible exact ih8 _ _ _ _ _)
      | (with_reducible exact ih9 _ _ _ _ _ _ _ _ _ _ _ _)
      | (with_reducible exact ih10 _ _ _ _ _ _ _ _ _ _ _ _ _ _ _ _ _ _ _ _)
      | (with_reducible exact impl_CanByNeighbours.mono _ _ _)
      | (with_reducible exact impl_CanByWindows.mono _ _ _ _)
      | (with_reducible exact impl_CountByNeighbours.mono _ _)
      | (with_reducible exact impl_IdleOrders.mono _ _)
      | (with_reducible exact impl_NeighboursTo.mono _ _ _)
      | (with_reducible exact impl_PlayNeighbours.mono _ _ _)
      | (with_reducible exact impl_PlayWindows.mono _ _ _ _)
      | (with_reducible exact impl_WindowsTo.mono _ _ _ _)
      | (with_reducible exact laws_mBefore.mono _ _ _)
      | (with_reducible exact laws_mHas.mono _ _ _)
      | (with_reducible exact laws_mRises.mono _ _)
      | (with_reducible exact laws_mSame.mono _ _ _)
      | (with_reducible exact spec_CanByNeighbours.mono _ _ _)
      | (with_reducible exact spec_CanByWindows.mono _ _ _ _)
      | (with_reducible exact spec_CountByNeighbours.mono _ _)
      | (with_reducible exact spec_DrawNeighboursTo.mono _ _)
      | (with_reducible exact spec_DrawPlayNeighbours.mono _ _)
      | (with_reducible exact spec_DrawPlayWindows.mono _ _)
      | (with_reducible exact spec_DrawWindowsTo.mono _ _)
      | (with_reducible exact spec_IdleOrders.mono _ _)
      | (with_reducible exact spec_NeighboursTo.mono _ _ _)
      | (with_reducible exact spec_PlayNeighbours.mono _ _ _)
      | (with_reducible exact spec_PlayWindows.mono _ _ _ _)
      | (with_reducible exact spec_WindowsTo.mono _ _ _ _)
      | (with_reducible exact LeO.refl _)
      | (with_reducible exact LeO.none _)
      | (with_reducible refine LeO.ite ?_ ?_)
      | (with_reducible refine LeO.bind ?_ (fun _ => ?_))
      | exact ih0 _ _ _ _ _ _ _ _ _
      | exact ih1 _ _ _ _
      | exact ih2 _ _
      | exact ih3 _ _ _ _ _ _ _ _ _ _ _ _ _ _ _ _ _ _
      | exact ih4 _ _ _ _ _ _ _ _ _ _ _ _ _
      | exact ih5 _ _ _ _ _ _ _ _ _ _ _
      | exact ih6 _ _ _ _ _ _ _ _
      | exact ih7 _ _ _ _ _
      | exact ih8 _ _ _ _ _
      | exact ih9 _ _ _ _ _ _ _ _ _ _ _ _
      | exact ih10 _ _ _ _ _ _ _ _ _ _ _ _ _ _ _ _ _ _ _ _
      | exact impl_CanByNeighbours.mono _ _ _
      | exact impl_CanByWindows.mono _ _ _ _
      | exact impl_CountByNeighbours.mono _ _
      | exact impl_IdleOrders.mono _ _
      | exact impl_NeighboursTo.mono _ _ _
      | exact impl_PlayNeighbours.mono _ _ _
      | exact impl_PlayWindows.mono _ _ _ _
      | exact impl_WindowsTo.mono _ _ _ _
      | exact laws_mBefore.mono _ _ _
      | exact laws_mHas.mono _ _ _
      | exact laws_mRises.mono _ _
      | exact laws_mSame.mono _ _ _
      | exact spec_CanByNeighbours.mono _ _ _
      | exact spec_CanByWindows.mono _ _ _ _
      | exact spec_CountByNeighbours.mono _ _
      | exact spec_DrawNeighboursTo.mono _ _
      | exact spec_DrawPlayNeighbours.mono _ _
      | exact spec_DrawPlayWindows.mono _ _
      | exact spec_DrawWindowsTo.mono _ _
      | exact spec_IdleOrders.mono _ _
      | exact spec_NeighboursTo.mono _ _ _
      | exact spec_PlayNeighbours.mono _ _ _
      | exact spec_PlayWindows.mono _ _ _ _
      | exact spec_WindowsTo.mono _ _ _ _
      | exact LeO.none _
      | refine LeO.ite ?_ ?_
      | refine LeO.bind ?_ (fun _ => ?_)
    · intro y0 y1 y2 y3 y4 y5 y6 y7 y8 y9 y10 y11
      unfold laws_FnOrdersReach.l1
      repeat' first
      | (with_reducible exact ih0 _ _ _ _ _ _ _ _ _)
      | (with_reducible exact ih1 _ _ _ _)
      | (with_reducible exact ih2 _ _)
      | (with_reducible exact ih3 _ _ _ _ _ _ _ _ _ _ _ _ _ _ _ _ _ _)
      | (with_reducible exact ih4 _ _ _ _ _ _ _ _ _ _ _ _ _)
      | (with_reducible exact ih5 _ _ _ _ _ _ _ _ _ _ _)
      | (with_reducible exact ih6 _ _ _ _ _ _ _ _)
      | (with_reducible exact ih7 _ _ _ _ _)
      | (with_reducible exact ih8 _ _ _ _ _)
      | (with_reducible exact ih9 _ _ _ _ _ _ _ _ _ _ _ _)
      | (with_reducible exact ih10 _ _ _ _ _ _ _ _ _ _ _ _ _ _ _ _ _ _ _ _)
      | (with_reducible exact impl_CanByNeighbours.mono _ _ _)
      | (with_reducible exact impl_CanByWindows.mono _ _ _ _)
      | (with_reducible exact impl_CountByNeighbours.mono _ _)
      | (with_reducible exact impl_IdleOrders.mono _ _)
      | (with_reducible exact impl_NeighboursTo.mono _ _ _)
      | (with_reducible exact impl_PlayNeighbours.mono _ _ _)
      | (with_reducible exact impl_PlayWindows.mono _ _ _ _)
      | (with_reducible exact impl_WindowsTo.mono _ _ _ _)
      | (with_reducible exact laws_mBefore.mono _ _ _)
      | (with_reducible exact laws_mHas.mono _ _ _)
      | (with_reducible exact laws_mRises.mono _ _)
      | (with_reducible exact laws_mSame.mono _ _ _)
      | (with_reducible exact spec_CanByNeighbours.mono _ _ _)
      | (with_reducible exact spec_CanByWindows.mono _ _ _ _)
      | (with_reducible exact spec_CountByNeighbours.mono _ _)
      | (with_reducible exact spec_DrawNeighboursTo.mono _ _)
      | (with_reducible exact spec_DrawPlayNeighbours.mono _ _)
      | (with_reducible exact spec_DrawPlayWindows.mono _ _)
      | (with_reducible exact spec_DrawWindowsTo.mono _ _)
      | (with_reducible exact spec_IdleOrders.mono _ _)
      | (with_reducible exact spec_NeighboursTo.mono _ _ _)
      | (with_reducible exact spec_PlayNeighbours.mono _ _ _)
      | (with_reducible exact spec_PlayWindows.mono _ _ _ _)
      | (with_reducible exact spec_WindowsTo.mono _ _ _ _)
      | (with_reducible exact LeO.refl _)
      | (with_reducible exact LeO.none _)
      | (with_reducible refine LeO.ite ?_ ?_)
      | (with_reducible refine LeO.bind ?_ (fun _ => ?_))
      | exact ih0 _ _ _ _ _ _ _ _ _
      | exact ih1 _ _ _ _
      | exact ih2 _ _
      | exact ih3 _ _ _ _ _ _ _ _ _ _ _ _ _ _ _ _ _ _
      | exact ih4 _ _ _ _ _ _ _ _ _ _ _ _ _
      | exact ih5 _ _ _ _ _ _ _ _ _ _ _
      | exact ih6 _ _ _ _ _ _ _ _
      | exact ih7 _ _ _ _ _
      | exact ih8 _ _ _ _ _
      | exact ih9 _ _ _ _ _ _ _ _ _ _ _ _
      | exact ih10 _ _ _ _ _ _ _ _ _ _ _ _ _ _ _ _ _ _ _ _
      | exact impl_CanByNeighbours.mono _ _ _
      | exact impl_CanByWindows.mono _ _ _ _
      | exact impl_CountByNeighbours.mono _ _
      | exact impl_IdleOrders.mono _ _
      | exact impl_NeighboursTo.mono _ _ _
      | exact impl_PlayNeighbours.mono _ _ _
      | exact impl_PlayWindows.mono _ _ _ _
      | exact impl_WindowsTo.mono _ _ _ _
      | exact laws_mBefore.mono _ _ _
      | exact laws_mHas.mono _ _ _
      | exact laws_mRises.mono _ _
      | exact laws_mSame.mono _ _ _
      | exact spec_CanByNeighbours.mono _ _ _
      | exact spec_CanByWindows.mono _ _ _ _
      | exact spec_CountByNeighbours.mono _ _
      | exact spec_DrawNeighboursTo.mono _ _
      | exact spec_DrawPlayNeighbours.mono _ _
      | exact spec_DrawPlayWindows.mono _ _
      | exact spec_DrawWindowsTo.mono _ _
      | exact spec_IdleOrders.mono _ _
      | exact spec_NeighboursTo.mono _ _ _
      | exact spec_PlayNeighbours.mono _ _ _
      | exact spec_PlayWindows.mono _ _ _ _
      | exact spec_WindowsTo.mono _ _ _ _
      | exact LeO.none _
      | refine LeO.ite ?_ ?_
      | refine LeO.bind ?_ (fun _ => ?_)
    · intro y0 y1 y2 y3 y4 y5 y6 y7 y8 y9 y10 y11 y12 y13 y14 y15 y16 y17 y18 y19
      unfold laws_FnOrdersReach.l0
      repeat' first
      | (with_reducible exact ih0 _ _ _ _ _ _ _ _ _)
      | (with_reducible exact ih1 _ _ _ _)
      | (with_reducible exact ih2 _ _)
      | (with_reducible exact ih3 _ _ _ _ _ _ _ _ _ _ _ _ _ _ _ _ _ _)
      | (with_reducible exact ih4 _ _ _ _ _ _ _ _ _ _ _ _ _)
      | (with_reducible exact ih5 _ _ _ _ _ _ _ _ _ _ _)
      | (with_reducible exact ih6 _ _ _ _ _ _ _ _)
      | (with_reducible exact ih7 _ _ _ _ _)
      | (with_reducible exact ih8 _ _ _ _ _)
      | (with_reducible exact ih9 _ _ _ _ _ _ _ _ _ _ _ _)
      | (with_reducible exact ih10 _ _ _ _ _ _ _ _ _ _ _ _ _ _ _ _ _ _ _ _)
      | (with_reducible exact impl_CanByNeighbours.mono _ _ _)
      | (with_reducible exact impl_CanByWindows.mono _ _ _ _)
      | (with_reducible exact impl_CountByNeighbours.mono _ _)
      | (with_reducible exact impl_IdleOrders.mono _ _)
      | (with_reducible exact impl_NeighboursTo.mono _ _ _)
      | (with_reducible exact impl_PlayNeighbours.mono _ _ _)
      | (with_reducible exact impl_PlayWindows.mono _ _ _ _)
      | (with_reducible exact impl_WindowsTo.mono _ _ _ _)
      | (with_reducible exact laws_mBefore.mono _ _ _)
      | (with_reducible exact laws_mHas.mono _ _ _)
      | (with_reducible exact laws_mRises.mono _ _)
      | (with_reducible exact laws_mSame.mono _ _ _)
      | (with_reducible exact spec_CanByNeighbours.mono _ _ _)
      | (with_reducible exact spec_CanByWindows.mono _ _ _ _)
      | (with_reducible exact spec_CountByNeighbours.mono _ _)
      | (with_reducible exact spec_DrawNeighboursTo.mono _ _)
      | (with_reducible exact spec_DrawPlayNeighbours.mono _ _)
      | (with_reducible exact spec_DrawPlayWindows.mono _ _)
      | (with_reducible exact spec_DrawWindowsTo.mono _ _)
      | (with_reducible exact spec_IdleOrders.mono _ _)
      | (with_reducible exact spec_NeighboursTo.mono _ _ _)
      | (with_reducible exact spec_PlayNeighbours.mono _ _ _)
      | (with_reducible exact spec_PlayWindows.mono _ _ _ _)
      | (with_reducible exact spec_WindowsTo.mono _ _ _ _)
      | (with_reducible exact LeO.refl _)
      | (with_reducible exact LeO.none _)
      | (with_reducible refine LeO.ite ?_ ?_)
      | (with_reducible refine LeO.bind ?_ (fun _ => ?_))
      | exact ih0 _ _ _ _ _ _ _ _ _
      | exact ih1 _ _ _ _
      | exact ih2 _ _
      | exact ih3 _ _ _ _ _ _ _ _ _ _ _ _ _ _ _ _ _ _
      | exact ih4 _ _ _ _ _ _ _ _ _ _ _ _ _
      | exact ih5 _ _ _ _ _ _ _ _ _ _ _
      | exact ih6 _ _ _ _ _ _ _ _
      | exact ih7 _ _ _ _ _
      | exact ih8 _ _ _ _ _
      | exact ih9 _ _ _ _ _ _ _ _ _ _ _ _
      | exact ih10 _ _ _ _ _ _ _ _ _ _ _ _ _ _ _ _ _ _ _ _
      | exact impl_CanByNeighbours.mono _ _ _
      | exact impl_CanByWindows.mono _ _ _ _
      | exact impl_CountByNeighbours.mono _ _
      | exact impl_IdleOrders.mono _ _
      | exact impl_NeighboursTo.mono _ _ _
      | exact impl_PlayNeighbours.mono _ _ _
      | exact impl_PlayWindows.mono _ _ _ _
      | exact impl_WindowsTo.mono _ _ _ _
      | exact laws_mBefore.mono _ _ _
      | exact laws_mHas.mono _ _ _
      | exact laws_mRises.mono _ _
      | exact laws_mSame.mono _ _ _
      | exact spec_CanByNeighbours.mono _ _ _
      | exact spec_CanByWindows.mono _ _ _ _
      | exact spec_CountByNeighbours.mono _ _
      | exact spec_DrawNeighboursTo.mono _ _
      | exact spec_DrawPlayNeighbours.mono _ _
      | exact spec_DrawPlayWindows.mono _ _
      | exact spec_DrawWindowsTo.mono _ _
      | exact spec_IdleOrders.mono _ _
      | exact spec_NeighboursTo.mono _ _ _
      | exact spec_PlayNeighbours.mono _ _ _
      | exact spec_PlayWindows.mono _ _ _ _
      | exact spec_WindowsTo.mono _ _ _ _
      | exact LeO.none _
      | refine LeO.ite ?_ ?_
      | refine LeO.bind ?_ (fun _ => ?_)
theorem laws_FnOrdersReach.mono : ∀ a0 a1 k, LeO (laws_FnOrdersReach.f k a0 a1) (laws_FnOrdersReach.f (k + 1) a0 a1) := by
  intro a0 a1 k
  obtain ⟨ih0, ih1, ih2, ih3, ih4, ih5, ih6, ih7, ih8, ih9, ih10⟩ := laws_FnOrdersReach.mono_l k
  unfold laws_FnOrdersReach.f
  repeat' first
      | (with_reducible exact ih0 _ _ _ _ _ _ _ _ _)
      | (with_reducible exact ih1 _ _ _ _)
      | (with_reducible exact ih2 _ _)
      | (with_reducible exact ih3 _ _ _ _ _ _ _ _ _ _ _ _ _ _ _ _ _ _)
      | (with_reducible exact ih4 _ _ _ _ _ _ _ _ _ _ _ _ _)
      | (with_reducible exact ih5 _ _ _ _ _ _ _ _ _ _ _)
      | (with_reducible exact ih6 _ _ _ _ _ _ _ _)
      | (with_reducible exact ih7 _ _ _ _ _)
      | (with_reducible exact ih8 _ _ _ _ _)
      | (with_reducible exact ih9 _ _ _ _ _ _ _ _ _ _ _ _)
      | (with_reducible exact ih10 _ _ _ _ _ _ _ _ _ _ _ _ _ _ _ _ _ _ _ _)
      | (with_reducible exact impl_CanByNeighbours.mono _ _ _)
      | (with_reducible exact impl_CanByWindows.mono _ _ _ _)
      | (with_reducible exact impl_CountByNeighbours.mono _ _)
      | (with_reducible exact impl_IdleOrders.mono _ _)
      | (with_reducible exact impl_NeighboursTo.mono _ _ _)
      | (with_reducible exact impl_PlayNeighbours.mono _ _ _)
      | (with_reducible exact impl_PlayWindows.mono _ _ _ _)
      | (with_reducible exact impl_WindowsTo.mono _ _ _ _)
      | (with_reducible exact laws_mBefore.mono _ _ _)
      | (with_reducible exact laws_mHas.mono _ _ _)
      | (with_reducible exact laws_mRises.mono _ _)
      | (with_reducible exact laws_mSame.mono _ _ _)
      | (with_reducible exact spec_CanByNeighbours.mono _ _ _)
      | (with_reducible exact spec_CanByWindows.mono _ _ _ _)
      | (with_reducible exact spec_CountByNeighbours.mono _ _)
      | (with_reducible exact spec_DrawNeighboursTo.mono _ _)
      | (with_reducible exact spec_DrawPlayNeighbours.mono _ _)
      | (with_reducible exact spec_DrawPlayWindows.mono _ _)
      | (with_reducible exact spec_DrawWindowsTo.mono _ _)
      | (with_reducible exact spec_IdleOrders.mono _ _)
      | (with_reducible exact spec_NeighboursTo.mono _ _ _)
      | (with_reducible exact spec_PlayNeighbours.mono _ _ _)
      | (with_reducible exact spec_PlayWindows.mono _ _ _ _)
      | (with_reducible exact spec_WindowsTo.mono _ _ _ _)
      | (with_reducible exact LeO.refl _)
      | (with_reducible exact LeO.none _)
      | (with_reducible refine LeO.ite ?_ ?_)
      | (with_reducible refine LeO.bind ?_ (fun _ => ?_))
      | exact ih0 _ _ _ _ _ _ _ _ _
      | exact ih1 _ _ _ _
      | exact ih2 _ _
      | exact ih3 _ _ _ _ _ _ _ _ _ _ _ _ _ _ _ _ _ _
      | exact ih4 _ _ _ _ _ _ _ _ _ _ _ _ _
      | exact ih5 _ _ _ _ _ _ _ _ _ _ _
      | exact ih6 _ _ _ _ _ _ _ _
      | exact ih7 _ _ _ _ _
      | exact ih8 _ _ _ _ _
      | exact ih9 _ _ _ _ _ _ _ _ _ _ _ _
      | exact ih10 _ _ _ _ _ _ _ _ _ _ _ _ _ _ _ _ _ _ _ _
      | exact impl_CanByNeighbours.mono _ _ _
      | exact impl_CanByWindows.mono _ _ _ _
      | exact impl_CountByNeighbours.mono _ _
      | exact impl_IdleOrders.mono _ _
      | exact impl_NeighboursTo.mono _ _ _
      | exact impl_PlayNeighbours.mono _ _ _
      | exact impl_PlayWindows.mono _ _ _ _
      | exact impl_WindowsTo.mono _ _ _ _
      | exact laws_mBefore.mono _ _ _
      | exact laws_mHas.mono _ _ _
      | exact laws_mRises.mono _ _
      | exact laws_mSame.mono _ _ _
      | exact spec_CanByNeighbours.mono _ _ _
      | exact spec_CanByWindows.mono _ _ _ _
      | exact spec_CountByNeighbours.mono _ _
      | exact spec_DrawNeighboursTo.mono _ _
      | exact spec_DrawPlayNeighbours.mono _ _
      | exact spec_DrawPlayWindows.mono _ _
      | exact spec_DrawWindowsTo.mono _ _
      | exact spec_IdleOrders.mono _ _
      | exact spec_NeighboursTo.mono _ _ _
      | exact spec_PlayNeighbours.mono _ _ _
      | exact spec_PlayWindows.mono _ _ _ _
      | exact spec_WindowsTo.mono _ _ _ _
      | exact LeO.none _
      | refine LeO.ite ?_ ?_
      | refine LeO.bind ?_ (fun _ => ?_)
set_option maxHeartbeats 80000000 in
set_option maxRecDepth 100000 in
theorem laws_FnOrdersReach.calls (k : Nat) (A0 : Option Addr) (c0 : Nat) (l0 : List Int) (A1 : Option Addr) (c1 : Nat) (l1 : List Int) (r : Bool) (w : World) (hm : Dr.Tab w) (hr0 : Kd.C (Kd.int .u8) w A0 l0.length l0) (hc0 : l0.length ≤ c0) (hr1 : Kd.C (Kd.int .u8) w A1 l1.length l1) (hc1 : l1.length ≤ c1) (hrt : r = true) (h : laws_FnOrdersReach.f k l0 l1 = some r) :
  Calls Tryz.prog 3 #[.slice A0 l0.length c0, .slice A1 l1.length c1] w fun e w' => e = .returned (.bool r) ∧ Below w.heap.size w w' := by
 have HR0 := Aside0.mk hr0
 have HC0 := Aside0.mk hc0
 clear hr0 hc0
 have HR1 := Aside0.mk hr1
 have HC1 := Aside0.mk hc1
 clear hr1 hc1
 have HB := Aside0.mk (Below.refl w.heap.size w)
 have HRT := Aside0.mk hrt
 clear hrt
 have HMM := Aside0.mk hm
 clear hm
 unfold laws_FnOrdersReach.f at h
 have H := h
 clear h
 replace H := Option.bind_eq_some_iff.mp H
 obtain ⟨t449, A30, H⟩ := H
 (try dsimp only at H)
 have A3 := Aside0.mk A30
 clear A30
 by_cases c4 : t449 = true
 ·subst c4
  rw [if_pos rfl] at H
  obtain rfl := Option.some.inj H
  go_enter Tryz.func3, Tryz.ntmps3
  go_wp2_with (first | ((with_reducible refine gate_callee (f := 4) rfl ?_); refine gl (some 77) Tryz.func4 #[.slice A0 l0.length c0, .slice A1 l1.length c1] ?_; (with_reducible refine (laws_big.calls _ _ l0 _ _ l1 true _ ?side1 ?side2 ?side3 ?side4 A3.out).mono ?_); (case side1 => repeat (first | exact HR0.out | (with_reducible refine Kd.C_alloc ?_ _) | (with_reducible refine Kd.C_drewN ?_ _) | (with_reducible refine Kd.C_drew ?_))); (case side2 => exact HC0.out); (case side3 => repeat (first | exact HR1.out | (with_reducible refine Kd.C_alloc ?_ _) | (with_reducible refine Kd.C_drewN ?_ _) | (with_reducible refine Kd.C_drew ?_))); (case side4 => exact HC1.out); rintro e w' ⟨rfl, ⟨nd, rfl⟩⟩; refine ⟨_, rfl, ?_⟩))
  go_ret
  exact ⟨rs, bw⟩
 ·replace c4 := Bool.eq_false_iff.mpr c4
  subst c4
  rw [if_neg (show ¬ (false = true) by decide)] at H
  replace H := Option.bind_eq_some_iff.mp H
  obtain ⟨⟨t450, t451, t452⟩, A50, H⟩ := H
  (try dsimp only at H)
  have A5 := Aside0.mk A50
  clear A50
  replace H := Option.bind_eq_some_iff.mp H
  obtain ⟨⟨t453, t454⟩, A60, H⟩ := H
  (try dsimp only at H)
  have A6 := Aside0.mk A60
  clear A60
  replace H := Option.bind_eq_some_iff.mp H
  obtain ⟨⟨t457, t458⟩, A70, H⟩ := H
  (try dsimp only at H)
  have A7 := Aside0.mk A70
  clear A70
  replace H := Option.bind_eq_some_iff.mp H
  obtain ⟨⟨t461, t462⟩, A80, H⟩ := H
  (try dsimp only at H)
  have A8 := Aside0.mk A80
  clear A80
  replace H := Option.bind_eq_some_iff.mp H
  obtain ⟨⟨t463, t464⟩, A90, H⟩ := H
  (try dsimp only at H)
  have A9 := Aside0.mk A90
  clear A90
  have HC10 := Aside0.mk H
  clear H
  go_enter Tryz.func3, Tryz.ntmps3
  go_upto_region 8 with (first | ((with_reducible refine gate_callee (f := 4) rfl ?_); refine gl (some 77) Tryz.func4 #[.slice A0 l0.length c0, .slice A1 l1.length c1] ?_; (with_reducible refine (laws_big.calls _ _ l0 _ _ l1 false _ ?side1 ?side2 ?side3 ?side4 A3.out).mono ?_); (case side1 => repeat (first | exact HR0.out | (with_reducible refine Kd.C_alloc ?_ _) | (with_reducible refine Kd.C_drewN ?_ _) | (with_reducible refine Kd.C_drew ?_))); (case side2 => exact HC0.out); (case side3 => repeat (first | exact HR1.out | (with_reducible refine Kd.C_alloc ?_ _) | (with_reducible refine Kd.C_drewN ?_ _) | (with_reducible refine Kd.C_drew ?_))); (case side4 => exact HC1.out); rintro e w' ⟨rfl, ⟨nd, rfl⟩⟩; refine ⟨_, rfl, ?_⟩) | ((with_reducible refine gate_callee (f := 5) rfl ?_); refine gl (some 80) Tryz.func5 #[.slice A0 l0.length c0] ?_; (with_reducible refine (spec_DrawWindowsTo.calls k _ _ l0 t450 t451 t452 _ ?side1 ?side2 A5.out).mono ?_); (case side1 => repeat (first | exact HR0.out | (with_reducible refine Kd.C_alloc ?_ _) | (with_reducible refine Kd.C_drewN ?_ _) | (with_reducible refine Kd.C_drew ?_))); (case side2 => exact HC0.out); rintro e w11 ⟨rfl, hb⟩; refine ⟨_, rfl, ?_⟩; replace HB := bs hb; (try clear hb)) | ((with_reducible refine gate_callee (f := 6) rfl ?_); refine gl (some 88) Tryz.func6 #[.string t450, .string t451, .int .i64 t452] ?_; (with_reducible refine (impl_WindowsTo.calls k t450 t451 t452 t453 t454 _ A6.out).mono ?_); rintro e w12 ⟨v455, rfl, ho0, hb⟩; refine ⟨_, rfl, ?_⟩; have HO456 := Aside0.mk (Kd.R_lower ho0 (below_size bw)); replace HB := bs hb; (try clear hb); (try clear ho0)) | ((with_reducible refine gate_callee (f := 7) rfl ?_); refine gl (some 95) Tryz.func7 #[.string t450, .string t451, .int .i64 t452] ?_; (with_reducible refine (spec_WindowsTo.calls k t450 t451 t452 t457 t458 _ A7.out).mono ?_); rintro e w13 ⟨v459, rfl, ho0, hb⟩; refine ⟨_, rfl, ?_⟩; have HO460 := Aside0.mk (Kd.R_lower (Kd.R_new' ho0 (Kd.R_lt (pr HO456))) (below_size bw)); replace HO456 := Aside0.mk (Kd.R_elder' (pr HO456) (Kd.R_base ho0) hb); replace HB := bs hb; (try clear hb); (try clear ho0)) | ((with_reducible refine gate_callee (f := 8) rfl ?_); refine gl (some 102) Tryz.func8 #[.string t450, .string t451, .int .i64 t452] ?_; (with_reducible refine (impl_CanByWindows.calls k t450 t451 t452 t461 t462 _ A8.out).mono ?_); rintro e w14 ⟨rfl, hb⟩; refine ⟨_, rfl, ?_⟩; replace HO456 := Aside0.mk (Kd.R_below (pr HO456) hb); replace HO460 := Aside0.mk (Kd.R_below (pr HO460) hb); replace HB := bs hb; (try clear hb)) | ((with_reducible refine gate_callee (f := 9) rfl ?_); refine gl (some 109) Tryz.func9 #[.string t450, .string t451, .int .i64 t452] ?_; (with_reducible refine (spec_CanByWindows.calls k t450 t451 t452 t463 t464 _ A9.out).mono ?_); rintro e w15 ⟨rfl, hb⟩; refine ⟨_, rfl, ?_⟩; replace HO456 := Aside0.mk (Kd.R_below (pr HO456) hb); replace HO460 := Aside0.mk (Kd.R_below (pr HO460) hb); replace HB := bs hb; (try clear hb)))
  (try simp only [Act.put, List.setIfInBounds_toArray, List.set_cons_zero, List.set_cons_succ])
  go_cut [77, 90, 97, 98, 99, 100, 101, 102, 103, 104, 105, 106, 107, 108, 109, 110, 111, 138] from 9999 (fun _ _ _ _ _ _ _ _ _ _ _ _ _ _ _ _ _ v138 wc => ∃ (kq : Nat) (x138_9 : Bool), v138 = .bool x138_9 ∧ Aside0 (laws_FnOrdersReach.j0 kq l1 t450 t451 t452 t453 t454 t461 t462 x138_9 = some r) ∧ Aside0 (kq ≤ k) ∧ Aside0 (Kd.R (Kd.int .i64) 3 wc w.heap.size (fun _ => True) v455 t453) ∧ Aside0 (Below w.heap.size w wc))
  case first => as_aux_lemma =>
   have H := HC10.out
   clear HC10
   by_cases c16 : (t454 != t458) = true
   ·rw [if_pos c16] at H
    exact absurd (Option.some.inj H) (by rw [HRT.out]; decide)
   ·rw [if_neg c16] at H
    have c16b0 : (t454 != t458) = false := by simpa using c16
    (try (have c16b1 : decide (t454 = t458) = true := by simpa using c16))
    (try (have c16b2 : (t454 == t458) = true := by simpa using c16))
    clear c16
    (first | rw [c16b0] | rw [@decide_eq_true _ _ (of_decide_eq_true c16b1)] | rw [@decide_eq_false _ _ (of_decide_eq_false c16b1)] | (simp only [i64_w, i32_w]; rw [c16b0]) | skip)
    replace H := Option.bind_eq_some_iff.mp H
    obtain ⟨t465, A170, H⟩ := H
    (try dsimp only at H)
    have A17 := Aside0.mk A170
    clear A170
    by_cases c18 : t465 = true
    ·subst c18
     rw [if_pos rfl] at H
     by_cases c19 : (t462 != t464) = true
     ·rw [if_pos c19] at H
      exact absurd (Option.some.inj H) (by rw [HRT.out]; decide)
     ·rw [if_neg c19] at H
      have c19b0 : (t462 != t464) = false := by simpa using c19
      (try (have c19b1 : decide (t462 = t464) = true := by simpa using c19))
      (try (have c19b2 : (t462 == t464) = true := by simpa using c19))
      clear c19
      by_cases c20 : (t461 != t463) = true
      ·rw [if_pos c20] at H
       exact absurd (Option.some.inj H) (by rw [HRT.out]; decide)
      ·rw [if_neg c20] at H
       have c20b0 : (t461 != t463) = false := by simpa using c20
       (try (have c20b1 : decide (t461 = t463) = true := by simpa using c20))
       (try (have c20b2 : (t461 == t463) = true := by simpa using c20))
       clear c20
       by_cases c21 : t462 = true
       ·subst c21
        rw [if_pos rfl] at H
        have H' := Aside0.mk H
        clear H
        obtain ⟨Ao22, co22, eo22⟩ := Kd.R_slice HO456.out
        subst eo22
        obtain ⟨Ao23, co23, eo23⟩ := Kd.R_slice HO460.out
        subst eo23
        go_wp2_with (first | (go_at_call 10; (with_reducible refine (laws_mSame.calls k _ _ t453 _ _ t457 true _ ?side1 ?side2 ?side3 ?side4 A17.out).mono ?_); (case side1 => repeat (first | exact (Kd.R_reads' HO456.out).2.2 | (with_reducible refine Kd.C_alloc ?_ _) | (with_reducible refine Kd.C_drewN ?_ _) | (with_reducible refine Kd.C_drew ?_))); (case side2 => exact (Kd.R_reads' HO456.out).2.1); (case side3 => repeat (first | exact (Kd.R_reads' HO460.out).2.2 | (with_reducible refine Kd.C_alloc ?_ _) | (with_reducible refine Kd.C_drewN ?_ _) | (with_reducible refine Kd.C_drew ?_))); (case side4 => exact (Kd.R_reads' HO460.out).2.1); rintro e w' ⟨rfl, ⟨nd, rfl⟩⟩))
        go_meet
        case rel => exact ⟨_, ((t454 != t461)), (rs), H', ⟨by first | omega | exact Nat.le_refl _⟩, ⟨by (with_reducible repeat (first | apply Kd.R_alloc | apply Kd.R_drewN | apply Kd.R_drew)); exact Kd.R_mono HO456.out (fun _ hk => trivial)⟩, ⟨bw⟩⟩
       ·replace c21 := Bool.eq_false_iff.mpr c21
        subst c21
        rw [if_neg (show ¬ (false = true) by decide)] at H
        have H' := Aside0.mk H
        clear H
        obtain ⟨Ao24, co24, eo24⟩ := Kd.R_slice HO456.out
        subst eo24
        obtain ⟨Ao25, co25, eo25⟩ := Kd.R_slice HO460.out
        subst eo25
        go_wp2_with (first | (go_at_call 10; (with_reducible refine (laws_mSame.calls k _ _ t453 _ _ t457 true _ ?side1 ?side2 ?side3 ?side4 A17.out).mono ?_); (case side1 => repeat (first | exact (Kd.R_reads' HO456.out).2.2 | (with_reducible refine Kd.C_alloc ?_ _) | (with_reducible refine Kd.C_drewN ?_ _) | (with_reducible refine Kd.C_drew ?_))); (case side2 => exact (Kd.R_reads' HO456.out).2.1); (case side3 => repeat (first | exact (Kd.R_reads' HO460.out).2.2 | (with_reducible refine Kd.C_alloc ?_ _) | (with_reducible refine Kd.C_drewN ?_ _) | (with_reducible refine Kd.C_drew ?_))); (case side4 => exact (Kd.R_reads' HO460.out).2.1); rintro e w' ⟨rfl, ⟨nd, rfl⟩⟩))
        go_meet
        case rel => exact ⟨_, ((t454 != false)), (rs), H', ⟨by first | omega | exact Nat.le_refl _⟩, ⟨by (with_reducible repeat (first | apply Kd.R_alloc | apply Kd.R_drewN | apply Kd.R_drew)); exact Kd.R_mono HO456.out (fun _ hk => trivial)⟩, ⟨bw⟩⟩
    ·replace c18 := Bool.eq_false_iff.mpr c18
     subst c18
     rw [if_neg (show ¬ (false = true) by decide)] at H
     exact absurd (Option.some.inj H) (by rw [HRT.out]; decide)
  case rest =>
   clear HC10
   repeat (first|clear c1|clear c2|clear p2|clear c3|clear c4|clear c5|clear c6|clear c7|clear c8|clear c9|clear c16|clear c16b0|clear c16b1|clear c16b2|clear c18|clear c19|clear c19b0|clear c19b1|clear c19b2|clear c20|clear c20b0|clear c20b1|clear c20b2|clear c21)
   obtain ⟨kq, x138_9, rfl, HA, HJ9, HO_8, HB⟩ := hcut
   cases kq with
   | zero => exact absurd HA.out (by simp [laws_FnOrdersReach.j0])
   | succ kj9 =>
    have H := HA.out
    clear HA
    simp only [laws_FnOrdersReach.j0] at H
    by_cases c26 : x138_9 = true
    ·subst c26
     rw [if_pos rfl] at H
     exact absurd (Option.some.inj H) (by rw [HRT.out]; decide)
    ·replace c26 := Bool.eq_false_iff.mpr c26
     subst c26
     rw [if_neg (show ¬ (false = true) by decide)] at H
     have HC27 := Aside0.mk H
     clear H
     go_upto_if 139 with (fail)
     go_cut [90, 97, 103, 104, 110, 111, 112, 113, 114, 115, 118, 119, 120, 121, 122, 123, 124, 125, 126, 127, 128, 129, 130, 131, 132, 133, 134, 135, 136, 137, 138, 139] from 9999 (fun _ _ _ _ _ _ _ _ _ _ _ _ _ _ _ _ _ _ _ _ _ _ _ _ _ _ _ _ _ _ _ _ wc => ∃ (kq : Nat), Aside0 (laws_FnOrdersReach.j1 kq l1 t452 t461 t462 = some r) ∧ Aside0 (kq ≤ kj9) ∧ Aside0 (Below w.heap.size w wc))
     case first => as_aux_lemma =>
      have H := HC27.out
      clear HC27
      by_cases c28 : t454 = true
      ·subst c28
       rw [if_pos rfl] at H
       replace H := Option.bind_eq_some_iff.mp H
       obtain ⟨⟨t466, t467⟩, A290, H⟩ := H
       (try dsimp only at H)
       have A29 := Aside0.mk A290
       clear A290
       replace H := Option.bind_eq_some_iff.mp H
       obtain ⟨⟨t468, t469⟩, A300, H⟩ := H
       (try dsimp only at H)
       have A30 := Aside0.mk A300
       clear A300
       by_cases c31 : t467 = true
       ·subst c31
        rw [if_pos rfl] at H
        by_cases c32 : t466.toList = t451.toList
        ·rw [if_pos c32] at H
         have c32b0 : (t466.toList == t451.toList) = true := beq_iff_eq.mpr c32
         have c32b1 : (t466.toList != t451.toList) = false := bne_eq_false_iff_eq.mpr c32
         clear c32
         (first | rw [c32b0] | rw [@decide_eq_true _ _ (of_decide_eq_true c32b1)] | rw [@decide_eq_false _ _ (of_decide_eq_false c32b1)] | (simp only [i64_w, i32_w]; rw [c32b0]) | skip)
         replace H := Option.bind_eq_some_iff.mp H
         obtain ⟨t472, A330, H⟩ := H
         (try dsimp only at H)
         have A33 := Aside0.mk A330
         clear A330
         by_cases c34 : t472 = true
         ·subst c34
          rw [if_pos rfl] at H
          by_cases c35 : t469 = true
          ·subst c35
           rw [if_pos rfl] at H
           replace H := Option.bind_eq_some_iff.mp H
           obtain ⟨t473, A360, H⟩ := H
           (try dsimp only at H)
           have A36 := Aside0.mk A360
           clear A360
           by_cases c37 : t473 = true
           ·subst c37
            rw [if_pos rfl] at H
            have H' := Aside0.mk H
            clear H
            obtain ⟨Ao38, co38, eo38⟩ := Kd.R_slice HO_8.out
            subst eo38
            go_wp2_with (first | ((with_reducible refine gate_callee (f := 11) rfl ?_); refine gl (some 144) Tryz.func11 #[.string t450, .int .i64 t452, .slice Ao38 t453.length co38] ?_; (with_reducible refine (impl_PlayWindows.calls kj9 t450 t452 _ _ t453 t466 true _ ?side1 ?side2 ?side3 A29.out).mono ?_); (case side1 => exact Dr.mm HMM); (case side2 => repeat (first | exact (Kd.R_reads' HO_8.out).2.2 | (with_reducible refine Kd.C_alloc ?_ _) | (with_reducible refine Kd.C_drewN ?_ _) | (with_reducible refine Kd.C_drew ?_))); (case side3 => exact (Kd.R_reads' HO_8.out).2.1); rintro e w39 ⟨rfl, hb⟩; refine ⟨_, rfl, ?_⟩; replace HO_8 := Aside0.mk (Kd.R_below (pr HO_8) hb); replace HB := bs hb; (try clear hb)) | ((with_reducible refine gate_callee (f := 6) rfl ?_); refine gl (some 151) Tryz.func6 #[.string t451, .string t450, .int .i64 t452] ?_; (with_reducible refine (impl_WindowsTo.calls kj9 t451 t450 t452 t468 true _ A30.out).mono ?_); rintro e w40 ⟨v470, rfl, ho0, hb⟩; refine ⟨_, rfl, ?_⟩; have HO471 := Aside0.mk (Kd.R_lower (Kd.R_new' ho0 (Kd.R_lt (pr HO_8))) (below_size bw)); replace HO_8 := Aside0.mk (Kd.R_elder' (pr HO_8) (Kd.R_base ho0) hb); replace HB := bs hb; (try clear hb); (try clear ho0)) | (go_at_call 12; (with_reducible refine (laws_mRises.calls kj9 _ _ t453 true _ ?side1 ?side2 A33.out).mono ?_); (case side1 => repeat (first | exact (Kd.R_reads' HO_8.out).2.2 | (with_reducible refine Kd.C_alloc ?_ _) | (with_reducible refine Kd.C_drewN ?_ _) | (with_reducible refine Kd.C_drew ?_))); (case side2 => exact (Kd.R_reads' HO_8.out).2.1); rintro e w' ⟨rfl, ⟨nd, rfl⟩⟩; obtain ⟨Ao41, co41, eo41⟩ := Kd.R_slice HO471.out; subst eo41) | (go_at_call 10; (with_reducible refine (laws_mSame.calls kj9 _ _ t468 _ _ t453 true _ ?side1 ?side2 ?side3 ?side4 A36.out).mono ?_); (case side1 => repeat (first | exact (Kd.R_reads' HO471.out).2.2 | (with_reducible refine Kd.C_alloc ?_ _) | (with_reducible refine Kd.C_drewN ?_ _) | (with_reducible refine Kd.C_drew ?_))); (case side2 => exact (Kd.R_reads' HO471.out).2.1); (case side3 => repeat (first | exact (Kd.R_reads' HO_8.out).2.2 | (with_reducible refine Kd.C_alloc ?_ _) | (with_reducible refine Kd.C_drewN ?_ _) | (with_reducible refine Kd.C_drew ?_))); (case side4 => exact (Kd.R_reads' HO_8.out).2.1); rintro e w' ⟨rfl, ⟨nd, rfl⟩⟩))
            go_meet
            case rel => exact ⟨_, H', ⟨by have := HJ9.out; first | omega | exact Nat.le_refl _⟩, ⟨bw⟩⟩
           ·replace c37 := Bool.eq_false_iff.mpr c37
            subst c37
            rw [if_neg (show ¬ (false = true) by decide)] at H
            exact absurd (Option.some.inj H) (by rw [HRT.out]; decide)
          ·replace c35 := Bool.eq_false_iff.mpr c35
           subst c35
           rw [if_neg (show ¬ (false = true) by decide)] at H
           exact absurd (Option.some.inj H) (by rw [HRT.out]; decide)
         ·replace c34 := Bool.eq_false_iff.mpr c34
          subst c34
          rw [if_neg (show ¬ (false = true) by decide)] at H
          exact absurd (Option.some.inj H) (by rw [HRT.out]; decide)
        ·rw [if_neg c32] at H
         exact absurd (Option.some.inj H) (by rw [HRT.out]; decide)
       ·replace c31 := Bool.eq_false_iff.mpr c31
        subst c31
        rw [if_neg (show ¬ (false = true) by decide)] at H
        exact absurd (Option.some.inj H) (by rw [HRT.out]; decide)
      ·replace c28 := Bool.eq_false_iff.mpr c28
       subst c28
       rw [if_neg (show ¬ (false = true) by decide)] at H
       have H' := Aside0.mk H
       clear H
       go_wp2
       go_meet
       case rel => exact ⟨_, H', ⟨by have := HJ9.out; first | omega | exact Nat.le_refl _⟩, ⟨bw⟩⟩
     case rest =>
      clear HC27
      repeat (first|clear c1|clear c2|clear p2|clear c3|clear c4|clear c5|clear c6|clear c7|clear c8|clear c9|clear c11|clear c16|clear c16b0|clear c16b1|clear c16b2|clear c18|clear c19|clear c19b0|clear c19b1|clear c19b2|clear c20|clear c20b0|clear c20b1|clear c20b2|clear c21|clear c26|clear c28|clear c31|clear c32|clear c32b0|clear c32b1|clear c34|clear c35|clear c37)
      obtain ⟨kq, HA, HJ26, HB⟩ := hcut
      cases kq with
      | zero => exact absurd HA.out (by simp [laws_FnOrdersReach.j1])
      | succ kj26 =>
       have H := HA.out
       clear HA
       simp only [laws_FnOrdersReach.j1] at H
       have HC42 := Aside0.mk H
       clear H
       go_upto_region 15 with (fail)
       go_cut [118, 119, 120, 121, 122, 123, 124, 125, 126, 127, 128, 129, 130, 131, 132, 133, 134, 135, 136, 137, 138, 139, 146, 153, 154, 155, 156, 159, 160, 161, 162, 163, 164, 165, 166, 167, 168, 169, 170, 171, 172, 173, 174, 175, 184] from 9999 (fun _ _ _ _ _ _ _ _ _ _ _ _ _ _ _ _ _ _ _ _ _ _ _ _ _ _ _ _ _ _ _ _ _ _ _ _ _ _ _ _ _ _ _ _ v184 wc => ∃ (kq : Nat) (x184_41 : Bool), v184 = .bool x184_41 ∧ Aside0 (laws_FnOrdersReach.j2 kq l1 x184_41 = some r) ∧ Aside0 (kq ≤ kj26) ∧ Aside0 (Below w.heap.size w wc))
       case first => as_aux_lemma =>
        have H := HC42.out
        clear HC42
        by_cases c43 : t462 = true
        ·subst c43
         rw [if_pos rfl] at H
         by_cases c44 : t452 = 1
         ·rw [if_pos c44] at H
          have c44b0 : (t452 == 1) = true := beq_iff_eq.mpr c44
          have c44b1 : (t452 != 1) = false := bne_eq_false_iff_eq.mpr c44
          clear c44
          (first | rw [c44b0] | rw [@decide_eq_true _ _ (of_decide_eq_true c44b1)] | rw [@decide_eq_false _ _ (of_decide_eq_false c44b1)] | (simp only [i64_w, i32_w]; rw [c44b0]) | skip)
          have H' := Aside0.mk H
          clear H
          go_wp2
          go_meet
          case rel => exact ⟨_, (!t461), (rs), H', ⟨by have := HJ9.out; have := HJ26.out; first | omega | exact Nat.le_refl _⟩, ⟨bw⟩⟩
         ·rw [if_neg c44] at H
          have c44b0 : (t452 == 1) = false := beq_eq_false_iff_ne.mpr c44
          have c44b1 : (t452 != 1) = true := bne_iff_ne.mpr c44
          (first | rw [c44b0] | rw [@decide_eq_true _ _ (of_decide_eq_true c44b1)] | rw [@decide_eq_false _ _ (of_decide_eq_false c44b1)] | (simp only [i64_w, i32_w]; rw [c44b0]) | skip)
          have H' := Aside0.mk H
          clear H
          go_wp2
          go_meet
          case rel => exact ⟨_, (false), (rs), H', ⟨by have := HJ9.out; have := HJ26.out; first | omega | exact Nat.le_refl _⟩, ⟨bw⟩⟩
        ·replace c43 := Bool.eq_false_iff.mpr c43
         subst c43
         rw [if_neg (show ¬ (false = true) by decide)] at H
         have H' := Aside0.mk H
         clear H
         go_wp2
         go_meet
         case rel => exact ⟨_, (false), (rs), H', ⟨by have := HJ9.out; have := HJ26.out; first | omega | exact Nat.le_refl _⟩, ⟨bw⟩⟩
       case rest =>
        clear HC42
        repeat (first|clear c1|clear c2|clear p2|clear c3|clear c4|clear c5|clear c6|clear c7|clear c8|clear c9|clear c11|clear c16|clear c16b0|clear c16b1|clear c16b2|clear c18|clear c19|clear c19b0|clear c19b1|clear c19b2|clear c20|clear c20b0|clear c20b1|clear c20b2|clear c21|clear c26|clear c28|clear c31|clear c32|clear c32b0|clear c32b1|clear c34|clear c35|clear c37|clear c43|clear c44|clear c44b0|clear c44b1)
        obtain ⟨kq, x184_41, rfl, HA, HJ41, HB⟩ := hcut
        cases kq with
        | zero => exact absurd HA.out (by simp [laws_FnOrdersReach.j2])
        | succ kj41 =>
         have H := HA.out
         clear HA
         simp only [laws_FnOrdersReach.j2] at H
         by_cases c45 : x184_41 = true
         ·subst c45
          rw [if_pos rfl] at H
          exact absurd (Option.some.inj H) (by rw [HRT.out]; decide)
         ·replace c45 := Bool.eq_false_iff.mpr c45
          subst c45
          rw [if_neg (show ¬ (false = true) by decide)] at H
          replace H := Option.bind_eq_some_iff.mp H
          obtain ⟨⟨t474, t475⟩, A460, H⟩ := H
          (try dsimp only at H)
          have A46 := Aside0.mk A460
          clear A460
          replace H := Option.bind_eq_some_iff.mp H
          obtain ⟨⟨t476, t477⟩, A470, H⟩ := H
          (try dsimp only at H)
          have A47 := Aside0.mk A470
          clear A470
          replace H := Option.bind_eq_some_iff.mp H
          obtain ⟨⟨t480, t481⟩, A480, H⟩ := H
          (try dsimp only at H)
          have A48 := Aside0.mk A480
          clear A480
          replace H := Option.bind_eq_some_iff.mp H
          obtain ⟨⟨t484, t485⟩, A490, H⟩ := H
          (try dsimp only at H)
          have A49 := Aside0.mk A490
          clear A490
          replace H := Option.bind_eq_some_iff.mp H
          obtain ⟨⟨t486, t487⟩, A500, H⟩ := H
          (try dsimp only at H)
          have A50 := Aside0.mk A500
          clear A500
          replace H := Option.bind_eq_some_iff.mp H
          obtain ⟨t488, A510, H⟩ := H
          (try dsimp only at H)
          have A51 := Aside0.mk A510
          clear A510
          replace H := Option.bind_eq_some_iff.mp H
          obtain ⟨⟨t489, t490⟩, A520, H⟩ := H
          (try dsimp only at H)
          have A52 := Aside0.mk A520
          clear A520
          replace H := Option.bind_eq_some_iff.mp H
          obtain ⟨⟨t493, t494⟩, A530, H⟩ := H
          (try dsimp only at H)
          have A53 := Aside0.mk A530
          clear A530
          replace H := Option.bind_eq_some_iff.mp H
          obtain ⟨⟨t497, t498⟩, A540, H⟩ := H
          (try dsimp only at H)
          have A54 := Aside0.mk A540
          clear A540
          replace H := Option.bind_eq_some_iff.mp H
          obtain ⟨⟨t499, t500⟩, A550, H⟩ := H
          (try dsimp only at H)
          have A55 := Aside0.mk A550
          clear A550
          replace H := Option.bind_eq_some_iff.mp H
          obtain ⟨⟨t501, t502⟩, A560, H⟩ := H
          (try dsimp only at H)
          have A56 := Aside0.mk A560
          clear A560
          replace H := Option.bind_eq_some_iff.mp H
          obtain ⟨⟨t503, t504⟩, A570, H⟩ := H
          (try dsimp only at H)
          have A57 := Aside0.mk A570
          clear A570
          replace H := Option.bind_eq_some_iff.mp H
          obtain ⟨⟨t505, t506⟩, A580, H⟩ := H
          (try dsimp only at H)
          have A58 := Aside0.mk A580
          clear A580
          replace H := Option.bind_eq_some_iff.mp H
          obtain ⟨⟨t507, t508, t509⟩, A590, H⟩ := H
          (try dsimp only at H)
          have A59 := Aside0.mk A590
          clear A590
          replace H := Option.bind_eq_some_iff.mp H
          obtain ⟨⟨t512, t513⟩, A600, H⟩ := H
          (try dsimp only at H)
          have A60 := Aside0.mk A600
          clear A600
          replace H := Option.bind_eq_some_iff.mp H
          obtain ⟨⟨t514, t515⟩, A610, H⟩ := H
          (try dsimp only at H)
          have A61 := Aside0.mk A610
          clear A610
          replace H := Option.bind_eq_some_iff.mp H
          obtain ⟨⟨t516, t517⟩, A620, H⟩ := H
          (try dsimp only at H)
          have A62 := Aside0.mk A620
          clear A620
          replace H := Option.bind_eq_some_iff.mp H
          obtain ⟨⟨t520, t521⟩, A630, H⟩ := H
          (try dsimp only at H)
          have A63 := Aside0.mk A630
          clear A630
          replace H := Option.bind_eq_some_iff.mp H
          obtain ⟨⟨t522, t523⟩, A640, H⟩ := H
          (try dsimp only at H)
          have A64 := Aside0.mk A640
          clear A640
          have HC65 := Aside0.mk H
          clear H
          go_upto_region 36 with (first | ((with_reducible refine gate_callee (f := 13) rfl ?_); refine gl (some 187) Tryz.func13 #[.slice A1 l1.length c1] ?_; (with_reducible refine (spec_DrawNeighboursTo.calls kj41 _ _ l1 t474 t475 _ ?side1 ?side2 A46.out).mono ?_); (case side1 => exact cb HR1); (case side2 => exact HC1.out); rintro e w66 ⟨rfl, hb⟩; refine ⟨_, rfl, ?_⟩; replace HB := bs hb; (try clear hb)) | ((with_reducible refine gate_callee (f := 14) rfl ?_); refine gl (some 193) Tryz.func14 #[.string t474, .string t475] ?_; (with_reducible refine (impl_NeighboursTo.calls kj41 t474 t475 t476 t477 _ A47.out).mono ?_); rintro e w67 ⟨v478, rfl, ho0, hb⟩; refine ⟨_, rfl, ?_⟩; have HO479 := Aside0.mk (Kd.R_lower ho0 (below_size bw)); replace HB := bs hb; (try clear hb); (try clear ho0)) | ((with_reducible refine gate_callee (f := 15) rfl ?_); refine gl (some 199) Tryz.func15 #[.string t474, .string t475] ?_; (with_reducible refine (spec_NeighboursTo.calls kj41 t474 t475 t480 t481 _ A48.out).mono ?_); rintro e w68 ⟨v482, rfl, ho0, hb⟩; refine ⟨_, rfl, ?_⟩; have HO483 := Aside0.mk (Kd.R_lower (Kd.R_new' ho0 (Kd.R_lt (pr HO479))) (below_size bw)); replace HO479 := Aside0.mk (Kd.R_elder' (pr HO479) (Kd.R_base ho0) hb); replace HB := bs hb; (try clear hb); (try clear ho0)) | ((with_reducible refine gate_callee (f := 16) rfl ?_); refine gl (some 205) Tryz.func16 #[.string t474, .string t475] ?_; (with_reducible refine (impl_CanByNeighbours.calls kj41 t474 t475 t484 t485 _ A49.out).mono ?_); rintro e w69 ⟨rfl, hb⟩; refine ⟨_, rfl, ?_⟩; replace HO479 := Aside0.mk (Kd.R_below (pr HO479) hb); replace HO483 := Aside0.mk (Kd.R_below (pr HO483) hb); replace HB := bs hb; (try clear hb)) | ((with_reducible refine gate_callee (f := 17) rfl ?_); refine gl (some 211) Tryz.func17 #[.string t474, .string t475] ?_; (with_reducible refine (spec_CanByNeighbours.calls kj41 t474 t475 t486 t487 _ A50.out).mono ?_); rintro e w70 ⟨rfl, hb⟩; refine ⟨_, rfl, ?_⟩; replace HO479 := Aside0.mk (Kd.R_below (pr HO479) hb); replace HO483 := Aside0.mk (Kd.R_below (pr HO483) hb); replace HB := bs hb; (try clear hb)) | ((with_reducible refine gate_callee (f := 18) rfl ?_); refine gl (some 215) Tryz.func18 #[.slice A1 l1.length c1] ?_; (with_reducible refine (spec_DrawIdleOrders.calls _ _ l1 t488 _ ?side1 ?side2 A51.out).mono ?_); (case side1 => exact cb HR1); (case side2 => exact HC1.out); rintro e w71 ⟨rfl, hb⟩; refine ⟨_, rfl, ?_⟩; replace HO479 := Aside0.mk (Kd.R_below (pr HO479) hb); replace HO483 := Aside0.mk (Kd.R_below (pr HO483) hb); replace HB := bs hb; (try clear hb)) | ((with_reducible refine gate_callee (f := 19) rfl ?_); refine gl (some 218) Tryz.func19 #[.int .i64 t488] ?_; (with_reducible refine (impl_IdleOrders.calls kj41 t488 t489 t490 _ A52.out).mono ?_); rintro e w72 ⟨v491, rfl, ho0, hb⟩; refine ⟨_, rfl, ?_⟩; have HO492 := Aside0.mk (Kd.R_lower (Kd.R_new' (Kd.R_new' ho0 (Kd.R_lt (pr HO479))) (Kd.R_lt (pr HO483))) (below_size bw)); replace HO479 := Aside0.mk (Kd.R_elder' (pr HO479) (Kd.R_base ho0) hb); replace HO483 := Aside0.mk (Kd.R_elder' (pr HO483) (Kd.R_base ho0) hb); replace HB := bs hb; (try clear hb); (try clear ho0)) | ((with_reducible refine gate_callee (f := 20) rfl ?_); refine gl (some 223) Tryz.func20 #[.int .i64 t488] ?_; (with_reducible refine (spec_IdleOrders.calls kj41 t488 t493 t494 _ A53.out).mono ?_); rintro e w73 ⟨v495, rfl, ho0, hb⟩; refine ⟨_, rfl, ?_⟩; have HO496 := Aside0.mk (Kd.R_lower (Kd.R_new' (Kd.R_new' (Kd.R_new' ho0 (Kd.R_lt (pr HO479))) (Kd.R_lt (pr HO483))) (Kd.R_lt (pr HO492))) (below_size bw)); replace HO479 := Aside0.mk (Kd.R_elder' (pr HO479) (Kd.R_base ho0) hb); replace HO483 := Aside0.mk (Kd.R_elder' (pr HO483) (Kd.R_base ho0) hb); replace HO492 := Aside0.mk (Kd.R_elder' (pr HO492) (Kd.R_base ho0) hb); replace HB := bs hb; (try clear hb); (try clear ho0)) | ((with_reducible refine gate_callee (f := 21) rfl ?_); refine gl (some 228) Tryz.func21 #[.int .i64 t488] ?_; (with_reducible refine (impl_CountByNeighbours.calls kj41 t488 t497 t498 _ A54.out).mono ?_); rintro e w74 ⟨rfl, hb⟩; refine ⟨_, rfl, ?_⟩; replace HO479 := Aside0.mk (Kd.R_below (pr HO479) hb); replace HO483 := Aside0.mk (Kd.R_below (pr HO483) hb); replace HO492 := Aside0.mk (Kd.R_below (pr HO492) hb); replace HO496 := Aside0.mk (Kd.R_below (pr HO496) hb); replace HB := bs hb; (try clear hb)) | ((with_reducible refine gate_callee (f := 22) rfl ?_); refine gl (some 233) Tryz.func22 #[.int .i64 t488] ?_; (with_reducible refine (spec_CountByNeighbours.calls kj41 t488 t499 t500 _ A55.out).mono ?_); rintro e w75 ⟨rfl, hb⟩; refine ⟨_, rfl, ?_⟩; replace HO479 := Aside0.mk (Kd.R_below (pr HO479) hb); replace HO483 := Aside0.mk (Kd.R_below (pr HO483) hb); replace HO492 := Aside0.mk (Kd.R_below (pr HO492) hb); replace HO496 := Aside0.mk (Kd.R_below (pr HO496) hb); replace HB := bs hb; (try clear hb)) | ((with_reducible refine gate_callee (f := 23) rfl ?_); refine gl (some 238) Tryz.func23 #[.slice A1 l1.length c1] ?_; (with_reducible refine (spec_DrawCountByWindows.calls _ _ l1 t501 t502 _ ?side1 ?side2 A56.out).mono ?_); (case side1 => exact cb HR1); (case side2 => exact HC1.out); rintro e w76 ⟨rfl, hb⟩; refine ⟨_, rfl, ?_⟩; replace HO479 := Aside0.mk (Kd.R_below (pr HO479) hb); replace HO483 := Aside0.mk (Kd.R_below (pr HO483) hb); replace HO492 := Aside0.mk (Kd.R_below (pr HO492) hb); replace HO496 := Aside0.mk (Kd.R_below (pr HO496) hb); replace HB := bs hb; (try clear hb)) | ((with_reducible refine gate_callee (f := 24) rfl ?_); refine gl (some 244) Tryz.func24 #[.int .i64 t501, .int .i64 t502] ?_; (with_reducible refine (impl_CountByWindows.calls t501 t502 t503 t504 _ A57.out).mono ?_); rintro e w' ⟨rfl, ⟨nd, rfl⟩⟩; refine ⟨_, rfl, ?_⟩) | ((with_reducible refine gate_callee (f := 25) rfl ?_); refine gl (some 250) Tryz.func25 #[.int .i64 t501, .int .i64 t502] ?_; (with_reducible refine (spec_CountByWindows.calls t501 t502 t505 t506 _ A58.out).mono ?_); rintro e w' ⟨rfl, ⟨nd, rfl⟩⟩; refine ⟨_, rfl, ?_⟩) | ((with_reducible refine gate_callee (f := 26) rfl ?_); refine gl (some 255) Tryz.func26 #[.slice A1 l1.length c1] ?_; (with_reducible refine (spec_DrawPlayWindows.calls kj41 _ _ l1 t507 t508 t509 _ ?side1 ?side2 A59.out).mono ?_); (case side1 => repeat (first | exact (Kd.C_below HR1.out bw) | (with_reducible refine Kd.C_alloc ?_ _) | (with_reducible refine Kd.C_drewN ?_ _) | (with_reducible refine Kd.C_drew ?_))); (case side2 => exact HC1.out); rintro e w77 ⟨v510, rfl, ho0, hb⟩; refine ⟨_, rfl, ?_⟩; have HO511 := Aside0.mk (Kd.R_lower (Kd.R_new' (Kd.R_new' (Kd.R_new' (Kd.R_new' ho0 (Kd.R_lt (pr HO479))) (Kd.R_lt (pr HO483))) (Kd.R_lt (pr HO492))) (Kd.R_lt (pr HO496))) (below_size bw)); replace HO479 := Aside0.mk (Kd.R_elder' (pr HO479) (Kd.R_base ho0) hb); replace HO483 := Aside0.mk (Kd.R_elder' (pr HO483) (Kd.R_base ho0) hb); replace HO492 := Aside0.mk (Kd.R_elder' (pr HO492) (Kd.R_base ho0) hb); replace HO496 := Aside0.mk (Kd.R_elder' (pr HO496) (Kd.R_base ho0) hb); replace HB := bs hb; (try clear hb); (try clear ho0); obtain ⟨Ao78, co78, eo78⟩ := Kd.R_slice HO511.out; subst eo78) | ((with_reducible refine gate_callee (f := 11) rfl ?_); refine gl (some 263) Tryz.func11 #[.string t507, .int .i64 t508, .slice Ao78 t509.length co78] ?_; (with_reducible refine (impl_PlayWindows.calls kj41 t507 t508 _ _ t509 t512 t513 _ ?side1 ?side2 ?side3 A60.out).mono ?_); (case side1 => exact Dr.mm HMM); (case side2 => repeat (first | exact (Kd.R_reads' HO511.out).2.2 | (with_reducible refine Kd.C_alloc ?_ _) | (with_reducible refine Kd.C_drewN ?_ _) | (with_reducible refine Kd.C_drew ?_))); (case side3 => exact (Kd.R_reads' HO511.out).2.1); rintro e w79 ⟨rfl, hb⟩; refine ⟨_, rfl, ?_⟩; replace HO479 := Aside0.mk (Kd.R_below (pr HO479) hb); replace HO483 := Aside0.mk (Kd.R_below (pr HO483) hb); replace HO492 := Aside0.mk (Kd.R_below (pr HO492) hb); replace HO496 := Aside0.mk (Kd.R_below (pr HO496) hb); replace HO511 := Aside0.mk (Kd.R_below (pr HO511) hb); replace HB := bs hb; (try clear hb)) | ((with_reducible refine gate_callee (f := 27) rfl ?_); refine gl (some 270) Tryz.func27 #[.string t507, .int .i64 t508, .slice Ao78 t509.length co78] ?_; (with_reducible refine (spec_PlayWindows.calls kj41 t507 t508 _ _ t509 t514 t515 _ ?side1 ?side2 A61.out).mono ?_); (case side1 => repeat (first | exact (Kd.R_reads' HO511.out).2.2 | (with_reducible refine Kd.C_alloc ?_ _) | (with_reducible refine Kd.C_drewN ?_ _) | (with_reducible refine Kd.C_drew ?_))); (case side2 => exact (Kd.R_reads' HO511.out).2.1); rintro e w' ⟨rfl, ⟨nd, rfl⟩⟩; refine ⟨_, rfl, ?_⟩) | ((with_reducible refine gate_callee (f := 28) rfl ?_); refine gl (some 275) Tryz.func28 #[.slice A1 l1.length c1] ?_; (with_reducible refine (spec_DrawPlayNeighbours.calls kj41 _ _ l1 t516 t517 _ ?side1 ?side2 A62.out).mono ?_); (case side1 => repeat (first | exact (Kd.C_below HR1.out bw) | (with_reducible refine Kd.C_alloc ?_ _) | (with_reducible refine Kd.C_drewN ?_ _) | (with_reducible refine Kd.C_drew ?_))); (case side2 => exact HC1.out); rintro e w80 ⟨v518, rfl, ho0, hb⟩; refine ⟨_, rfl, ?_⟩; have HO519 := Aside0.mk (Kd.R_lower (Kd.R_new' (Kd.R_new' (Kd.R_new' (Kd.R_new' (Kd.R_new' ho0 (Kd.R_lt (pr HO479))) (Kd.R_lt (pr HO483))) (Kd.R_lt (pr HO492))) (Kd.R_lt (pr HO496))) (Kd.R_lt (pr HO511))) (below_size bw)); replace HO479 := Aside0.mk (Kd.R_elder' (pr HO479) (Kd.R_base ho0) hb); replace HO483 := Aside0.mk (Kd.R_elder' (pr HO483) (Kd.R_base ho0) hb); replace HO492 := Aside0.mk (Kd.R_elder' (pr HO492) (Kd.R_base ho0) hb); replace HO496 := Aside0.mk (Kd.R_elder' (pr HO496) (Kd.R_base ho0) hb); replace HO511 := Aside0.mk (Kd.R_elder' (pr HO511) (Kd.R_base ho0) hb); replace HB := bs hb; (try clear hb); (try clear ho0); obtain ⟨Ao81, co81, eo81⟩ := Kd.R_slice HO519.out; subst eo81) | ((with_reducible refine gate_callee (f := 29) rfl ?_); refine gl (some 281) Tryz.func29 #[.string t516, .slice Ao81 t517.length co81] ?_; (with_reducible refine (impl_PlayNeighbours.calls kj41 t516 _ _ t517 t520 t521 _ ?side1 ?side2 ?side3 A63.out).mono ?_); (case side1 => exact Dr.mm HMM); (case side2 => repeat (first | exact (Kd.R_reads' HO519.out).2.2 | (with_reducible refine Kd.C_alloc ?_ _) | (with_reducible refine Kd.C_drewN ?_ _) | (with_reducible refine Kd.C_drew ?_))); (case side3 => exact (Kd.R_reads' HO519.out).2.1); rintro e w82 ⟨rfl, hb⟩; refine ⟨_, rfl, ?_⟩; replace HO479 := Aside0.mk (Kd.R_below (pr HO479) hb); replace HO483 := Aside0.mk (Kd.R_below (pr HO483) hb); replace HO492 := Aside0.mk (Kd.R_below (pr HO492) hb); replace HO496 := Aside0.mk (Kd.R_below (pr HO496) hb); replace HO511 := Aside0.mk (Kd.R_below (pr HO511) hb); replace HO519 := Aside0.mk (Kd.R_below (pr HO519) hb); replace HB := bs hb; (try clear hb)) | ((with_reducible refine gate_callee (f := 30) rfl ?_); refine gl (some 287) Tryz.func30 #[.string t516, .slice Ao81 t517.length co81] ?_; (with_reducible refine (spec_PlayNeighbours.calls kj41 t516 _ _ t517 t522 t523 _ ?side1 ?side2 A64.out).mono ?_); (case side1 => repeat (first | exact (Kd.R_reads' HO519.out).2.2 | (with_reducible refine Kd.C_alloc ?_ _) | (with_reducible refine Kd.C_drewN ?_ _) | (with_reducible refine Kd.C_drew ?_))); (case side2 => exact (Kd.R_reads' HO519.out).2.1); rintro e w' ⟨rfl, ⟨nd, rfl⟩⟩; refine ⟨_, rfl, ?_⟩))
          (try simp only [Act.put, List.setIfInBounds_toArray, List.set_cons_zero, List.set_cons_succ])
          go_cut [230, 235, 246, 252, 265, 272, 276, 277, 278, 279, 280, 281, 282, 283, 284, 285, 286, 287, 288, 289, 374] from 9999 (fun _ _ _ _ _ _ _ _ _ _ _ _ _ _ _ _ _ _ _ _ v374 wc => ∃ (kq : Nat) (x374_64 : Bool), v374 = .bool x374_64 ∧ Aside0 (laws_FnOrdersReach.j3 kq t474 t475 t476 t477 t488 t489 t490 t497 t498 t501 t502 t503 t504 t516 t517 t520 t521 x374_64 = some r) ∧ Aside0 (kq ≤ kj41) ∧ Aside0 (Kd.R (Kd.int .i64) 3 wc w.heap.size (fun k_ => some k_ ≠ (v491 : Value).ownBlock ∧ some k_ ≠ ((.slice Ao81 t517.length co81) : Value).ownBlock) v478 t476) ∧ Aside0 (Kd.R (Kd.int .i64) 3 wc w.heap.size (fun k_ => some k_ ≠ (v478 : Value).ownBlock ∧ some k_ ≠ ((.slice Ao81 t517.length co81) : Value).ownBlock) v491 t489) ∧ Aside0 (Kd.R (Kd.int .i64) 3 wc w.heap.size (fun k_ => some k_ ≠ (v478 : Value).ownBlock ∧ some k_ ≠ (v491 : Value).ownBlock) (.slice Ao81 t517.length co81) t517) ∧ Aside0 (Below w.heap.size w wc))
          case first => as_aux_lemma =>
           have H := HC65.out
           clear HC65
           by_cases c83 : (t477 != t481) = true
           ·rw [if_pos c83] at H
            exact absurd (Option.some.inj H) (by rw [HRT.out]; decide)
           ·rw [if_neg c83] at H
            have c83b0 : (t477 != t481) = false := by simpa using c83
            (try (have c83b1 : decide (t477 = t481) = true := by simpa using c83))
            (try (have c83b2 : (t477 == t481) = true := by simpa using c83))
            clear c83
            (first | rw [c83b0] | rw [@decide_eq_true _ _ (of_decide_eq_true c83b1)] | rw [@decide_eq_false _ _ (of_decide_eq_false c83b1)] | (simp only [i64_w, i32_w]; rw [c83b0]) | skip)
            replace H := Option.bind_eq_some_iff.mp H
            obtain ⟨t524, A840, H⟩ := H
            (try dsimp only at H)
            have A84 := Aside0.mk A840
            clear A840
            by_cases c85 : t524 = true
            ·subst c85
             rw [if_pos rfl] at H
             by_cases c86 : (t485 != t487) = true
             ·rw [if_pos c86] at H
              exact absurd (Option.some.inj H) (by rw [HRT.out]; decide)
             ·rw [if_neg c86] at H
              have c86b0 : (t485 != t487) = false := by simpa using c86
              (try (have c86b1 : decide (t485 = t487) = true := by simpa using c86))
              (try (have c86b2 : (t485 == t487) = true := by simpa using c86))
              clear c86
              by_cases c87 : (t484 != t486) = true
              ·rw [if_pos c87] at H
               exact absurd (Option.some.inj H) (by rw [HRT.out]; decide)
              ·rw [if_neg c87] at H
               have c87b0 : (t484 != t486) = false := by simpa using c87
               (try (have c87b1 : decide (t484 = t486) = true := by simpa using c87))
               (try (have c87b2 : (t484 == t486) = true := by simpa using c87))
               clear c87
               by_cases c88 : t485 = true
               ·subst c88
                rw [if_pos rfl] at H
                by_cases c89 : (t477 != t484) = true
                ·rw [if_pos c89] at H
                 exact absurd (Option.some.inj H) (by rw [HRT.out]; decide)
                ·rw [if_neg c89] at H
                 have c89b0 : (t477 != t484) = false := by simpa using c89
                 (try (have c89b1 : decide (t477 = t484) = true := by simpa using c89))
                 (try (have c89b2 : (t477 == t484) = true := by simpa using c89))
                 clear c89
                 by_cases c90 : (t490 != t494) = true
                 ·rw [if_pos c90] at H
                  exact absurd (Option.some.inj H) (by rw [HRT.out]; decide)
                 ·rw [if_neg c90] at H
                  have c90b0 : (t490 != t494) = false := by simpa using c90
                  (try (have c90b1 : decide (t490 = t494) = true := by simpa using c90))
                  (try (have c90b2 : (t490 == t494) = true := by simpa using c90))
                  clear c90
                  replace H := Option.bind_eq_some_iff.mp H
                  obtain ⟨t525, A910, H⟩ := H
                  (try dsimp only at H)
                  have A91 := Aside0.mk A910
                  clear A910
                  by_cases c92 : t525 = true
                  ·subst c92
                   rw [if_pos rfl] at H
                   by_cases c93 : (t498 != t500) = true
                   ·rw [if_pos c93] at H
                    exact absurd (Option.some.inj H) (by rw [HRT.out]; decide)
                   ·rw [if_neg c93] at H
                    have c93b0 : (t498 != t500) = false := by simpa using c93
                    (try (have c93b1 : decide (t498 = t500) = true := by simpa using c93))
                    (try (have c93b2 : (t498 == t500) = true := by simpa using c93))
                    clear c93
                    by_cases c94 : t497 = t499
                    ·rw [if_pos c94] at H
                     have c94b0 : (t497 == t499) = true := beq_iff_eq.mpr c94
                     have c94b1 : (t497 != t499) = false := bne_eq_false_iff_eq.mpr c94
                     clear c94
                     by_cases c95 : (t504 != t506) = true
                     ·rw [if_pos c95] at H
                      exact absurd (Option.some.inj H) (by rw [HRT.out]; decide)
                     ·rw [if_neg c95] at H
                      have c95b0 : (t504 != t506) = false := by simpa using c95
                      (try (have c95b1 : decide (t504 = t506) = true := by simpa using c95))
                      (try (have c95b2 : (t504 == t506) = true := by simpa using c95))
                      clear c95
                      by_cases c96 : t503 = t505
                      ·rw [if_pos c96] at H
                       have c96b0 : (t503 == t505) = true := beq_iff_eq.mpr c96
                       have c96b1 : (t503 != t505) = false := bne_eq_false_iff_eq.mpr c96
                       clear c96
                       by_cases c97 : (t513 != t515) = true
                       ·rw [if_pos c97] at H
                        exact absurd (Option.some.inj H) (by rw [HRT.out]; decide)
                       ·rw [if_neg c97] at H
                        have c97b0 : (t513 != t515) = false := by simpa using c97
                        (try (have c97b1 : decide (t513 = t515) = true := by simpa using c97))
                        (try (have c97b2 : (t513 == t515) = true := by simpa using c97))
                        clear c97
                        by_cases c98 : t512.toList = t514.toList
                        ·rw [if_pos c98] at H
                         have c98b0 : (t512.toList == t514.toList) = true := beq_iff_eq.mpr c98
                         have c98b1 : (t512.toList != t514.toList) = false := bne_eq_false_iff_eq.mpr c98
                         clear c98
                         by_cases c99 : (t521 != t523) = true
                         ·rw [if_pos c99] at H
                          exact absurd (Option.some.inj H) (by rw [HRT.out]; decide)
                         ·rw [if_neg c99] at H
                          have c99b0 : (t521 != t523) = false := by simpa using c99
                          (try (have c99b1 : decide (t521 = t523) = true := by simpa using c99))
                          (try (have c99b2 : (t521 == t523) = true := by simpa using c99))
                          clear c99
                          by_cases c100 : t520.toList = t522.toList
                          ·rw [if_pos c100] at H
                           have c100b0 : (t520.toList == t522.toList) = true := beq_iff_eq.mpr c100
                           have c100b1 : (t520.toList != t522.toList) = false := bne_eq_false_iff_eq.mpr c100
                           clear c100
                           by_cases c101 : t490 = true
                           ·subst c101
                            rw [if_pos rfl] at H
                            have H' := Aside0.mk H
                            clear H
                            obtain ⟨Ao102, co102, eo102⟩ := Kd.R_slice HO479.out
                            subst eo102
                            obtain ⟨Ao103, co103, eo103⟩ := Kd.R_slice HO483.out
                            subst eo103
                            go_wp2_with (first | (go_at_call 10; (with_reducible refine (laws_mSame.calls kj41 _ _ t476 _ _ t480 true _ ?side1 ?side2 ?side3 ?side4 A84.out).mono ?_); (case side1 => repeat (first | exact (Kd.R_reads' HO479.out).2.2 | (with_reducible refine Kd.C_alloc ?_ _) | (with_reducible refine Kd.C_drewN ?_ _) | (with_reducible refine Kd.C_drew ?_))); (case side2 => exact (Kd.R_reads' HO479.out).2.1); (case side3 => repeat (first | exact (Kd.R_reads' HO483.out).2.2 | (with_reducible refine Kd.C_alloc ?_ _) | (with_reducible refine Kd.C_drewN ?_ _) | (with_reducible refine Kd.C_drew ?_))); (case side4 => exact (Kd.R_reads' HO483.out).2.1); rintro e w' ⟨rfl, ⟨nd, rfl⟩⟩; obtain ⟨Ao104, co104, eo104⟩ := Kd.R_slice HO492.out; subst eo104; obtain ⟨Ao105, co105, eo105⟩ := Kd.R_slice HO496.out; subst eo105) | (go_at_call 10; (with_reducible refine (laws_mSame.calls kj41 _ _ t489 _ _ t493 true _ ?side1 ?side2 ?side3 ?side4 A91.out).mono ?_); (case side1 => repeat (first | exact (Kd.R_reads' HO492.out).2.2 | (with_reducible refine Kd.C_alloc ?_ _) | (with_reducible refine Kd.C_drewN ?_ _) | (with_reducible refine Kd.C_drew ?_))); (case side2 => exact (Kd.R_reads' HO492.out).2.1); (case side3 => repeat (first | exact (Kd.R_reads' HO496.out).2.2 | (with_reducible refine Kd.C_alloc ?_ _) | (with_reducible refine Kd.C_drewN ?_ _) | (with_reducible refine Kd.C_drew ?_))); (case side4 => exact (Kd.R_reads' HO496.out).2.1); rintro e w' ⟨rfl, ⟨nd, rfl⟩⟩))
                            go_meet
                            case rel => exact ⟨_, (!t498), (rs), H', ⟨by have := HJ9.out; have := HJ26.out; have := HJ41.out; first | omega | exact Nat.le_refl _⟩, ⟨by (with_reducible repeat (first | apply Kd.R_alloc | apply Kd.R_drewN | apply Kd.R_drew)); exact Kd.R_mono HO479.out (fun _ hk => ⟨hk.1.1.1.2, hk.2⟩)⟩, ⟨by (with_reducible repeat (first | apply Kd.R_alloc | apply Kd.R_drewN | apply Kd.R_drew)); exact Kd.R_mono HO492.out (fun _ hk => ⟨hk.1.1.1.1.2, hk.2⟩)⟩, ⟨by (with_reducible repeat (first | apply Kd.R_alloc | apply Kd.R_drewN | apply Kd.R_drew)); exact Kd.R_mono HO519.out (fun _ hk => ⟨hk.1.1.1.1.2, hk.1.1.2⟩)⟩, ⟨bw⟩⟩
                           ·replace c101 := Bool.eq_false_iff.mpr c101
                            subst c101
                            rw [if_neg (show ¬ (false = true) by decide)] at H
                            have H' := Aside0.mk H
                            clear H
                            obtain ⟨Ao106, co106, eo106⟩ := Kd.R_slice HO479.out
                            subst eo106
                            obtain ⟨Ao107, co107, eo107⟩ := Kd.R_slice HO483.out
                            subst eo107
                            go_wp2_with (first | (go_at_call 10; (with_reducible refine (laws_mSame.calls kj41 _ _ t476 _ _ t480 true _ ?side1 ?side2 ?side3 ?side4 A84.out).mono ?_); (case side1 => repeat (first | exact (Kd.R_reads' HO479.out).2.2 | (with_reducible refine Kd.C_alloc ?_ _) | (with_reducible refine Kd.C_drewN ?_ _) | (with_reducible refine Kd.C_drew ?_))); (case side2 => exact (Kd.R_reads' HO479.out).2.1); (case side3 => repeat (first | exact (Kd.R_reads' HO483.out).2.2 | (with_reducible refine Kd.C_alloc ?_ _) | (with_reducible refine Kd.C_drewN ?_ _) | (with_reducible refine Kd.C_drew ?_))); (case side4 => exact (Kd.R_reads' HO483.out).2.1); rintro e w' ⟨rfl, ⟨nd, rfl⟩⟩; obtain ⟨Ao108, co108, eo108⟩ := Kd.R_slice HO492.out; subst eo108; obtain ⟨Ao109, co109, eo109⟩ := Kd.R_slice HO496.out; subst eo109) | (go_at_call 10; (with_reducible refine (laws_mSame.calls kj41 _ _ t489 _ _ t493 true _ ?side1 ?side2 ?side3 ?side4 A91.out).mono ?_); (case side1 => repeat (first | exact (Kd.R_reads' HO492.out).2.2 | (with_reducible refine Kd.C_alloc ?_ _) | (with_reducible refine Kd.C_drewN ?_ _) | (with_reducible refine Kd.C_drew ?_))); (case side2 => exact (Kd.R_reads' HO492.out).2.1); (case side3 => repeat (first | exact (Kd.R_reads' HO496.out).2.2 | (with_reducible refine Kd.C_alloc ?_ _) | (with_reducible refine Kd.C_drewN ?_ _) | (with_reducible refine Kd.C_drew ?_))); (case side4 => exact (Kd.R_reads' HO496.out).2.1); rintro e w' ⟨rfl, ⟨nd, rfl⟩⟩))
                            go_meet
                            case rel => exact ⟨_, (false), (rs), H', ⟨by have := HJ9.out; have := HJ26.out; have := HJ41.out; first | omega | exact Nat.le_refl _⟩, ⟨by (with_reducible repeat (first | apply Kd.R_alloc | apply Kd.R_drewN | apply Kd.R_drew)); exact Kd.R_mono HO479.out (fun _ hk => ⟨hk.1.1.1.2, hk.2⟩)⟩, ⟨by (with_reducible repeat (first | apply Kd.R_alloc | apply Kd.R_drewN | apply Kd.R_drew)); exact Kd.R_mono HO492.out (fun _ hk => ⟨hk.1.1.1.1.2, hk.2⟩)⟩, ⟨by (with_reducible repeat (first | apply Kd.R_alloc | apply Kd.R_drewN | apply Kd.R_drew)); exact Kd.R_mono HO519.out (fun _ hk => ⟨hk.1.1.1.1.2, hk.1.1.2⟩)⟩, ⟨bw⟩⟩
                          ·rw [if_neg c100] at H
                           exact absurd (Option.some.inj H) (by rw [HRT.out]; decide)
                        ·rw [if_neg c98] at H
                         exact absurd (Option.some.inj H) (by rw [HRT.out]; decide)
                      ·rw [if_neg c96] at H
                       exact absurd (Option.some.inj H) (by rw [HRT.out]; decide)
                    ·rw [if_neg c94] at H
                     exact absurd (Option.some.inj H) (by rw [HRT.out]; decide)
                  ·replace c92 := Bool.eq_false_iff.mpr c92
                   subst c92
                   rw [if_neg (show ¬ (false = true) by decide)] at H
                   exact absurd (Option.some.inj H) (by rw [HRT.out]; decide)
               ·replace c88 := Bool.eq_false_iff.mpr c88
                subst c88
                rw [if_neg (show ¬ (false = true) by decide)] at H
                by_cases c110 : (t477 != false) = true
                ·rw [if_pos c110] at H
                 exact absurd (Option.some.inj H) (by rw [HRT.out]; decide)
                ·rw [if_neg c110] at H
                 have c110b0 : (t477 != false) = false := by simpa using c110
                 (try (have c110b1 : decide (t477 = false) = true := by simpa using c110))
                 (try (have c110b2 : (t477 == false) = true := by simpa using c110))
                 clear c110
                 by_cases c111 : (t490 != t494) = true
                 ·rw [if_pos c111] at H
                  exact absurd (Option.some.inj H) (by rw [HRT.out]; decide)
                 ·rw [if_neg c111] at H
                  have c111b0 : (t490 != t494) = false := by simpa using c111
                  (try (have c111b1 : decide (t490 = t494) = true := by simpa using c111))
                  (try (have c111b2 : (t490 == t494) = true := by simpa using c111))
                  clear c111
                  replace H := Option.bind_eq_some_iff.mp H
                  obtain ⟨t526, A1120, H⟩ := H
                  (try dsimp only at H)
                  have A112 := Aside0.mk A1120
                  clear A1120
                  by_cases c113 : t526 = true
                  ·subst c113
                   rw [if_pos rfl] at H
                   by_cases c114 : (t498 != t500) = true
                   ·rw [if_pos c114] at H
                    exact absurd (Option.some.inj H) (by rw [HRT.out]; decide)
                   ·rw [if_neg c114] at H
                    have c114b0 : (t498 != t500) = false := by simpa using c114
                    (try (have c114b1 : decide (t498 = t500) = true := by simpa using c114))
                    (try (have c114b2 : (t498 == t500) = true := by simpa using c114))
                    clear c114
                    by_cases c115 : t497 = t499
                    ·rw [if_pos c115] at H
                     have c115b0 : (t497 == t499) = true := beq_iff_eq.mpr c115
                     have c115b1 : (t497 != t499) = false := bne_eq_false_iff_eq.mpr c115
                     clear c115
                     by_cases c116 : (t504 != t506) = true
                     ·rw [if_pos c116] at H
                      exact absurd (Option.some.inj H) (by rw [HRT.out]; decide)
                     ·rw [if_neg c116] at H
                      have c116b0 : (t504 != t506) = false := by simpa using c116
                      (try (have c116b1 : decide (t504 = t506) = true := by simpa using c116))
                      (try (have c116b2 : (t504 == t506) = true := by simpa using c116))
                      clear c116
                      by_cases c117 : t503 = t505
                      ·rw [if_pos c117] at H
                       have c117b0 : (t503 == t505) = true := beq_iff_eq.mpr c117
                       have c117b1 : (t503 != t505) = false := bne_eq_false_iff_eq.mpr c117
                       clear c117
                       by_cases c118 : (t513 != t515) = true
                       ·rw [if_pos c118] at H
                        exact absurd (Option.some.inj H) (by rw [HRT.out]; decide)
                       ·rw [if_neg c118] at H
                        have c118b0 : (t513 != t515) = false := by simpa using c118
                        (try (have c118b1 : decide (t513 = t515) = true := by simpa using c118))
                        (try (have c118b2 : (t513 == t515) = true := by simpa using c118))
                        clear c118
                        by_cases c119 : t512.toList = t514.toList
                        ·rw [if_pos c119] at H
                         have c119b0 : (t512.toList == t514.toList) = true := beq_iff_eq.mpr c119
                         have c119b1 : (t512.toList != t514.toList) = false := bne_eq_false_iff_eq.mpr c119
                         clear c119
                         by_cases c120 : (t521 != t523) = true
                         ·rw [if_pos c120] at H
                          exact absurd (Option.some.inj H) (by rw [HRT.out]; decide)
                         ·rw [if_neg c120] at H
                          have c120b0 : (t521 != t523) = false := by simpa using c120
                          (try (have c120b1 : decide (t521 = t523) = true := by simpa using c120))
                          (try (have c120b2 : (t521 == t523) = true := by simpa using c120))
                          clear c120
                          by_cases c121 : t520.toList = t522.toList
                          ·rw [if_pos c121] at H
                           have c121b0 : (t520.toList == t522.toList) = true := beq_iff_eq.mpr c121
                           have c121b1 : (t520.toList != t522.toList) = false := bne_eq_false_iff_eq.mpr c121
                           clear c121
                           by_cases c122 : t490 = true
                           ·subst c122
                            rw [if_pos rfl] at H
                            have H' := Aside0.mk H
                            clear H
                            obtain ⟨Ao123, co123, eo123⟩ := Kd.R_slice HO479.out
                            subst eo123
                            obtain ⟨Ao124, co124, eo124⟩ := Kd.R_slice HO483.out
                            subst eo124
                            go_wp2_with (first | (go_at_call 10; (with_reducible refine (laws_mSame.calls kj41 _ _ t476 _ _ t480 true _ ?side1 ?side2 ?side3 ?side4 A84.out).mono ?_); (case side1 => repeat (first | exact (Kd.R_reads' HO479.out).2.2 | (with_reducible refine Kd.C_alloc ?_ _) | (with_reducible refine Kd.C_drewN ?_ _) | (with_reducible refine Kd.C_drew ?_))); (case side2 => exact (Kd.R_reads' HO479.out).2.1); (case side3 => repeat (first | exact (Kd.R_reads' HO483.out).2.2 | (with_reducible refine Kd.C_alloc ?_ _) | (with_reducible refine Kd.C_drewN ?_ _) | (with_reducible refine Kd.C_drew ?_))); (case side4 => exact (Kd.R_reads' HO483.out).2.1); rintro e w' ⟨rfl, ⟨nd, rfl⟩⟩; obtain ⟨Ao125, co125, eo125⟩ := Kd.R_slice HO492.out; subst eo125; obtain ⟨Ao126, co126, eo126⟩ := Kd.R_slice HO496.out; subst eo126) | (go_at_call 10; (with_reducible refine (laws_mSame.calls kj41 _ _ t489 _ _ t493 true _ ?side1 ?side2 ?side3 ?side4 A112.out).mono ?_); (case side1 => repeat (first | exact (Kd.R_reads' HO492.out).2.2 | (with_reducible refine Kd.C_alloc ?_ _) | (with_reducible refine Kd.C_drewN ?_ _) | (with_reducible refine Kd.C_drew ?_))); (case side2 => exact (Kd.R_reads' HO492.out).2.1); (case side3 => repeat (first | exact (Kd.R_reads' HO496.out).2.2 | (with_reducible refine Kd.C_alloc ?_ _) | (with_reducible refine Kd.C_drewN ?_ _) | (with_reducible refine Kd.C_drew ?_))); (case side4 => exact (Kd.R_reads' HO496.out).2.1); rintro e w' ⟨rfl, ⟨nd, rfl⟩⟩))
                            go_meet
                            case rel => exact ⟨_, (!t498), (rs), H', ⟨by have := HJ9.out; have := HJ26.out; have := HJ41.out; first | omega | exact Nat.le_refl _⟩, ⟨by (with_reducible repeat (first | apply Kd.R_alloc | apply Kd.R_drewN | apply Kd.R_drew)); exact Kd.R_mono HO479.out (fun _ hk => ⟨hk.1.1.1.2, hk.2⟩)⟩, ⟨by (with_reducible repeat (first | apply Kd.R_alloc | apply Kd.R_drewN | apply Kd.R_drew)); exact Kd.R_mono HO492.out (fun _ hk => ⟨hk.1.1.1.1.2, hk.2⟩)⟩, ⟨by (with_reducible repeat (first | apply Kd.R_alloc | apply Kd.R_drewN | apply Kd.R_drew)); exact Kd.R_mono HO519.out (fun _ hk => ⟨hk.1.1.1.1.2, hk.1.1.2⟩)⟩, ⟨bw⟩⟩
                           ·replace c122 := Bool.eq_false_iff.mpr c122
                            subst c122
                            rw [if_neg (show ¬ (false = true) by decide)] at H
                            have H' := Aside0.mk H
                            clear H
                            obtain ⟨Ao127, co127, eo127⟩ := Kd.R_slice HO479.out
                            subst eo127
                            obtain ⟨Ao128, co128, eo128⟩ := Kd.R_slice HO483.out
                            subst eo128
                            go_wp2_with (first | (go_at_call 10; (with_reducible refine (laws_mSame.calls kj41 _ _ t476 _ _ t480 true _ ?side1 ?side2 ?side3 ?side4 A84.out).mono ?_); (case side1 => repeat (first | exact (Kd.R_reads' HO479.out).2.2 | (with_reducible refine Kd.C_alloc ?_ _) | (with_reducible refine Kd.C_drewN ?_ _) | (with_reducible refine Kd.C_drew ?_))); (case side2 => exact (Kd.R_reads' HO479.out).2.1); (case side3 => repeat (first | exact (Kd.R_reads' HO483.out).2.2 | (with_reducible refine Kd.C_alloc ?_ _) | (with_reducible refine Kd.C_drewN ?_ _) | (with_reducible refine Kd.C_drew ?_))); (case side4 => exact (Kd.R_reads' HO483.out).2.1); rintro e w' ⟨rfl, ⟨nd, rfl⟩⟩; obtain ⟨Ao129, co129, eo129⟩ := Kd.R_slice HO492.out; subst eo129; obtain ⟨Ao130, co130, eo130⟩ := Kd.R_slice HO496.out; subst eo130) | (go_at_call 10; (with_reducible refine (laws_mSame.calls kj41 _ _ t489 _ _ t493 true _ ?side1 ?side2 ?side3 ?side4 A112.out).mono ?_); (case side1 => repeat (first | exact (Kd.R_reads' HO492.out).2.2 | (with_reducible refine Kd.C_alloc ?_ _) | (with_reducible refine Kd.C_drewN ?_ _) | (with_reducible refine Kd.C_drew ?_))); (case side2 => exact (Kd.R_reads' HO492.out).2.1); (case side3 => repeat (first | exact (Kd.R_reads' HO496.out).2.2 | (with_reducible refine Kd.C_alloc ?_ _) | (with_reducible refine Kd.C_drewN ?_ _) | (with_reducible refine Kd.C_drew ?_))); (case side4 => exact (Kd.R_reads' HO496.out).2.1); rintro e w' ⟨rfl, ⟨nd, rfl⟩⟩))
                            go_meet
                            case rel => exact ⟨_, (false), (rs), H', ⟨by have := HJ9.out; have := HJ26.out; have := HJ41.out; first | omega | exact Nat.le_refl _⟩, ⟨by (with_reducible repeat (first | apply Kd.R_alloc | apply Kd.R_drewN | apply Kd.R_drew)); exact Kd.R_mono HO479.out (fun _ hk => ⟨hk.1.1.1.2, hk.2⟩)⟩, ⟨by (with_reducible repeat (first | apply Kd.R_alloc | apply Kd.R_drewN | apply Kd.R_drew)); exact Kd.R_mono HO492.out (fun _ hk => ⟨hk.1.1.1.1.2, hk.2⟩)⟩, ⟨by (with_reducible repeat (first | apply Kd.R_alloc | apply Kd.R_drewN | apply Kd.R_drew)); exact Kd.R_mono HO519.out (fun _ hk => ⟨hk.1.1.1.1.2, hk.1.1.2⟩)⟩, ⟨bw⟩⟩
                          ·rw [if_neg c121] at H
                           exact absurd (Option.some.inj H) (by rw [HRT.out]; decide)
                        ·rw [if_neg c119] at H
                         exact absurd (Option.some.inj H) (by rw [HRT.out]; decide)
                      ·rw [if_neg c117] at H
                       exact absurd (Option.some.inj H) (by rw [HRT.out]; decide)
                    ·rw [if_neg c115] at H
                     exact absurd (Option.some.inj H) (by rw [HRT.out]; decide)
                  ·replace c113 := Bool.eq_false_iff.mpr c113
                   subst c113
                   rw [if_neg (show ¬ (false = true) by decide)] at H
                   exact absurd (Option.some.inj H) (by rw [HRT.out]; decide)
            ·replace c85 := Bool.eq_false_iff.mpr c85
             subst c85
             rw [if_neg (show ¬ (false = true) by decide)] at H
             exact absurd (Option.some.inj H) (by rw [HRT.out]; decide)
          case rest =>
           clear HC65
           repeat (first|clear c1|clear c2|clear p2|clear c3|clear c4|clear c5|clear c6|clear c7|clear c8|clear c9|clear c10|clear c11|clear c12|clear c13|clear c14|clear c15|clear c16|clear c16b0|clear c16b1|clear c16b2|clear c17|clear c18|clear c19|clear c19b0|clear c19b1|clear c19b2|clear c20|clear c20b0|clear c20b1|clear c20b2|clear c21|clear c22|clear c23|clear c24|clear c25|clear c26|clear c27|clear c28|clear c29|clear c30|clear c31|clear c32|clear c32b0|clear c32b1|clear c34|clear c35|clear c37|clear c43|clear c44|clear c44b0|clear c44b1|clear c45|clear c83|clear c83b0|clear c83b1|clear c83b2|clear c85|clear c86|clear c86b0|clear c86b1|clear c86b2|clear c87|clear c87b0|clear c87b1|clear c87b2|clear c88|clear c89|clear c89b0|clear c89b1|clear c89b2|clear c90|clear c90b0|clear c90b1|clear c90b2|clear c92|clear c93|clear c93b0|clear c93b1|clear c93b2|clear c94|clear c94b0|clear c94b1|clear c95|clear c95b0|clear c95b1|clear c95b2|clear c96|clear c96b0|clear c96b1|clear c97|clear c97b0|clear c97b1|clear c97b2|clear c98|clear c98b0|clear c98b1|clear c99|clear c99b0|clear c99b1|clear c99b2|clear c100|clear c100b0|clear c100b1|clear c101|clear c110|clear c110b0|clear c110b1|clear c110b2|clear c111|clear c111b0|clear c111b1|clear c111b2|clear c113|clear c114|clear c114b0|clear c114b1|clear c114b2|clear c115|clear c115b0|clear c115b1|clear c116|clear c116b0|clear c116b1|clear c116b2|clear c117|clear c117b0|clear c117b1|clear c118|clear c118b0|clear c118b1|clear c118b2|clear c119|clear c119b0|clear c119b1|clear c120|clear c120b0|clear c120b1|clear c120b2|clear c121|clear c121b0|clear c121b1|clear c122)
           obtain ⟨kq, x374_64, rfl, HA, HJ64, HO_22, HO_31, HO_53, HB⟩ := hcut
           cases kq with
           | zero => exact absurd HA.out (by simp [laws_FnOrdersReach.j3])
           | succ kj64 =>
            have H := HA.out
            clear HA
            simp only [laws_FnOrdersReach.j3] at H
            by_cases c131 : x374_64 = true
            ·subst c131
             rw [if_pos rfl] at H
             exact absurd (Option.some.inj H) (by rw [HRT.out]; decide)
            ·replace c131 := Bool.eq_false_iff.mpr c131
             subst c131
             rw [if_neg (show ¬ (false = true) by decide)] at H
             have HC132 := Aside0.mk H
             clear H
             go_upto_if 375 with (fail)
             go_cut [316, 317, 318, 319, 320, 321, 322, 325, 326, 327, 328, 329, 330, 331, 332, 333, 336, 337, 338, 339, 340, 341, 342, 343, 346, 347, 348, 349, 350, 351, 352, 353, 356, 357, 358, 359, 360, 361, 362, 363, 364, 365, 366, 367, 368, 369, 370, 371, 372, 373, 374, 375] from 9999 (fun _ _ _ _ _ _ _ _ _ _ _ _ _ _ _ _ _ _ _ _ _ _ _ _ _ _ _ _ _ _ _ _ _ _ _ _ _ _ _ _ _ _ _ _ _ _ _ _ _ _ _ _ wc => ∃ (kq : Nat), Aside0 (laws_FnOrdersReach.j5 kq t488 t489 t490 t497 t498 t501 t502 t503 t504 t516 t517 t520 t521 = some r) ∧ Aside0 (kq ≤ kj64) ∧ Aside0 (Kd.R (Kd.int .i64) 3 wc w.heap.size (fun k_ => some k_ ≠ ((.slice Ao81 t517.length co81) : Value).ownBlock) v491 t489) ∧ Aside0 (Kd.R (Kd.int .i64) 3 wc w.heap.size (fun k_ => some k_ ≠ (v491 : Value).ownBlock) (.slice Ao81 t517.length co81) t517) ∧ Aside0 (Below w.heap.size w wc))
             case first => as_aux_lemma =>
              have H := HC132.out
              clear HC132
              by_cases c133 : t477 = true
              ·subst c133
               rw [if_pos rfl] at H
               replace H := Option.bind_eq_some_iff.mp H
               obtain ⟨⟨t527, t528⟩, A1340, H⟩ := H
               (try dsimp only at H)
               have A134 := Aside0.mk A1340
               clear A1340
               by_cases c135 : t528 = true
               ·subst c135
                rw [if_pos rfl] at H
                by_cases c136 : t527.toList = t475.toList
                ·rw [if_pos c136] at H
                 have c136b0 : (t527.toList == t475.toList) = true := beq_iff_eq.mpr c136
                 have c136b1 : (t527.toList != t475.toList) = false := bne_eq_false_iff_eq.mpr c136
                 clear c136
                 (first | rw [c136b0] | rw [@decide_eq_true _ _ (of_decide_eq_true c136b1)] | rw [@decide_eq_false _ _ (of_decide_eq_false c136b1)] | (simp only [i64_w, i32_w]; rw [c136b0]) | skip)
                 replace H := Option.bind_eq_some_iff.mp H
                 obtain ⟨t529, A1370, H⟩ := H
                 (try dsimp only at H)
                 have A137 := Aside0.mk A1370
                 clear A1370
                 by_cases c138 : t529 = true
                 ·subst c138
                  rw [if_pos rfl] at H
                  by_cases c139 : (wrap64 (2 * (t476.length : Int))) > (wrap64 (2 * (t474.size : Int)))
                  ·rw [if_pos c139] at H
                   exact absurd (Option.some.inj H) (by rw [HRT.out]; decide)
                  ·rw [if_neg c139] at H
                   have c139b0 : decide ((wrap64 (2 * (t474.size : Int))) < (wrap64 (2 * (t476.length : Int)))) = false := decide_eq_false c139
                   clear c139
                   replace H := Option.bind_eq_some_iff.mp H
                   obtain ⟨⟨t530, t531⟩, A1400, H⟩ := H
                   (try dsimp only at H)
                   have A140 := Aside0.mk A1400
                   clear A1400
                   by_cases c141 : t531 = true
                   ·subst c141
                    rw [if_pos rfl] at H
                    have H' := Aside0.mk H
                    clear H
                    obtain ⟨Ao142, co142, eo142⟩ := Kd.R_slice HO_22.out
                    subst eo142
                    go_wp2_with (first | ((with_reducible refine gate_callee (f := 29) rfl ?_); refine gl (some 379) Tryz.func29 #[.string t474, .slice Ao142 t476.length co142] ?_; (with_reducible refine (impl_PlayNeighbours.calls kj64 t474 _ _ t476 t527 true _ ?side1 ?side2 ?side3 A134.out).mono ?_); (case side1 => exact Dr.mm HMM); (case side2 => repeat (first | exact (Kd.R_reads' HO_22.out).2.2 | (with_reducible refine Kd.C_alloc ?_ _) | (with_reducible refine Kd.C_drewN ?_ _) | (with_reducible refine Kd.C_drew ?_))); (case side3 => exact (Kd.R_reads' HO_22.out).2.1); rintro e w143 ⟨rfl, hb⟩; refine ⟨_, rfl, ?_⟩; replace HO_22 := Aside0.mk (Kd.R_below (pr HO_22) hb); replace HO_31 := Aside0.mk (Kd.R_below (pr HO_31) hb); replace HO_53 := Aside0.mk (Kd.R_below (pr HO_53) hb); replace HB := bs hb; (try clear hb)) | (go_at_call 12; (with_reducible refine (laws_mRises.calls kj64 _ _ t476 true _ ?side1 ?side2 A137.out).mono ?_); (case side1 => repeat (first | exact (Kd.R_reads' HO_22.out).2.2 | (with_reducible refine Kd.C_alloc ?_ _) | (with_reducible refine Kd.C_drewN ?_ _) | (with_reducible refine Kd.C_drew ?_))); (case side2 => exact (Kd.R_reads' HO_22.out).2.1); rintro e w' ⟨rfl, ⟨nd, rfl⟩⟩) | ((with_reducible refine gate_callee (f := 19) rfl ?_); refine gl (some 406) Tryz.func19 #[.int .i64 (t474.size : Int)] ?_; (with_reducible refine (impl_IdleOrders.calls kj64 (t474.size : Int) t530 true _ A140.out).mono ?_); rintro e w144 ⟨v532, rfl, ho0, hb⟩; refine ⟨_, rfl, ?_⟩; have HO533 := Aside0.mk (Kd.R_lower (Kd.R_new' (Kd.R_new' (Kd.R_new' ho0 (Kd.R_lt (pr HO_22))) (Kd.R_lt (pr HO_31))) (Kd.R_lt (pr HO_53))) (below_size bw)); replace HO_22 := Aside0.mk (Kd.R_elder' (pr HO_22) (Kd.R_base ho0) hb); replace HO_31 := Aside0.mk (Kd.R_elder' (pr HO_31) (Kd.R_base ho0) hb); replace HO_53 := Aside0.mk (Kd.R_elder' (pr HO_53) (Kd.R_base ho0) hb); replace HB := bs hb; (try clear hb); (try clear ho0)) | ((with_reducible refine gate_dst (N := 411) rfl ?_); (try (refine gate_guard (by rfl) ?_; dsimp only)); refine iter_event ?hg (N := 411) ?hd (s := t474) ?hx Tryz.underlying9 ?_; (case hd => rfl); (case hg => rfl); (case hx => exact ⟨_, rfl, by first | rfl | (go_simp; done) | (go_simp; rfl)⟩); intro gb534 hg w145 hbox hb; replace HO_22 := Aside0.mk (Kd.R_below (pr HO_22) hb); replace HO_31 := Aside0.mk (Kd.R_below (pr HO_31) hb); replace HO_53 := Aside0.mk (Kd.R_below (pr HO_53) hb); replace HO533 := Aside0.mk (Kd.R_below (pr HO533) hb); have IT534 := Aside0.mk (hbox); have GW534 := gs hg; have GE534 := gs hg; replace HB := bs hb; clear hb hbox hg))
                    (try simp only [Act.put, List.setIfInBounds_toArray, List.set_cons_zero, List.set_cons_succ])
                    go_loopg [62] kj64 (fun kq v62 w' => ∃ (x62_5 : List Int) (x535000_5 : Int), Aside0 (laws_FnOrdersReach.l0 kq t474 t475 t476 t488 t489 t490 t497 t498 t501 t502 t503 t504 t516 t517 t520 t521 t530 x62_5 x535000_5 t474 = some r) ∧ Aside0 (kq ≤ kj64) ∧ Aside0 (Kd.R (Kd.int .i64) 3 w' w.heap.size (fun k_ => some k_ ≠ (v491 : Value).ownBlock ∧ some k_ ≠ ((.slice Ao81 t517.length co81) : Value).ownBlock ∧ some k_ ≠ (v532 : Value).ownBlock ∧ some k_ ≠ (v62 : Value).ownBlock) (.slice Ao142 t476.length co142) t476) ∧ Aside0 (Kd.R (Kd.int .i64) 3 w' w.heap.size (fun k_ => some k_ ≠ ((.slice Ao142 t476.length co142) : Value).ownBlock ∧ some k_ ≠ ((.slice Ao81 t517.length co81) : Value).ownBlock ∧ some k_ ≠ (v532 : Value).ownBlock ∧ some k_ ≠ (v62 : Value).ownBlock) v491 t489) ∧ Aside0 (Kd.R (Kd.int .i64) 3 w' w.heap.size (fun k_ => some k_ ≠ ((.slice Ao142 t476.length co142) : Value).ownBlock ∧ some k_ ≠ (v491 : Value).ownBlock ∧ some k_ ≠ (v532 : Value).ownBlock ∧ some k_ ≠ (v62 : Value).ownBlock) (.slice Ao81 t517.length co81) t517) ∧ Aside0 (Kd.R (Kd.int .i64) 3 w' w.heap.size (fun k_ => some k_ ≠ ((.slice Ao142 t476.length co142) : Value).ownBlock ∧ some k_ ≠ (v491 : Value).ownBlock ∧ some k_ ≠ ((.slice Ao81 t517.length co81) : Value).ownBlock ∧ some k_ ≠ (v62 : Value).ownBlock) v532 t530) ∧ Aside0 (Kd.R (Kd.int .i64) 3 w' w.heap.size (fun k_ => some k_ ≠ ((.slice Ao142 t476.length co142) : Value).ownBlock ∧ some k_ ≠ (v491 : Value).ownBlock ∧ some k_ ≠ ((.slice Ao81 t517.length co81) : Value).ownBlock ∧ some k_ ≠ (v532 : Value).ownBlock) v62 x62_5) ∧ Aside0 (w'.heap[gb534]? = some (.stringIter t474 (x535000_5 : Int).toNat)) ∧ Aside0 (Below w.heap.size w w'))
                    case atStart => exact ⟨(([] : List Int)), (0), H', ⟨Nat.le_refl _⟩, ⟨by (with_reducible repeat (first | apply Kd.R_alloc | apply Kd.R_drewN | apply Kd.R_drew)); exact Kd.R_mono HO_22.out (fun _ hk => ⟨hk.1.1, ⟨hk.1.2, ⟨hk.2, (by simp [Value.ownBlock])⟩⟩⟩)⟩, ⟨by (with_reducible repeat (first | apply Kd.R_alloc | apply Kd.R_drewN | apply Kd.R_drew)); exact Kd.R_mono HO_31.out (fun _ hk => ⟨hk.1.1, ⟨hk.1.2, ⟨hk.2, (by simp [Value.ownBlock])⟩⟩⟩)⟩, ⟨by (with_reducible repeat (first | apply Kd.R_alloc | apply Kd.R_drewN | apply Kd.R_drew)); exact Kd.R_mono HO_53.out (fun _ hk => ⟨hk.1.1, ⟨hk.1.2, ⟨hk.2, (by simp [Value.ownBlock])⟩⟩⟩)⟩, ⟨by (with_reducible repeat (first | apply Kd.R_alloc | apply Kd.R_drewN | apply Kd.R_drew)); exact Kd.R_mono HO533.out (fun _ hk => ⟨hk.1.1.2, ⟨hk.1.2, ⟨hk.2, (by simp [Value.ownBlock])⟩⟩⟩)⟩, ⟨by first | exact Kd.R_nil _ _ _ _ _ | exact Kd.N_nil _ _ _ _ _ | exact Kd.V_nil _ _ _ _ _ | exact Kd.Q_nil _ _ _ _ _ | exact Kd.S_nil _ _ _ _ _⟩, ⟨by (with_reducible repeat (first | refine blk_drewN ?_ _ | refine blk_drew ?_ | refine blk_alloc ?_ _)); exact IT534.out⟩, ⟨bw⟩⟩
                    case round =>
                     clear H'
                     repeat (first|clear c1|clear c2|clear p2|clear c3|clear c4|clear c5|clear c6|clear p6|clear c7|clear c8|clear c9|clear c10|clear c11|clear c12|clear c13|clear c14|clear c15|clear c16|clear c16b0|clear c16b1|clear c16b2|clear c17|clear c18|clear c19|clear c19b0|clear c19b1|clear c19b2|clear c20|clear c20b0|clear c20b1|clear c20b2|clear c21|clear c22|clear c23|clear c24|clear c25|clear c26|clear c27|clear c28|clear c29|clear c30|clear c31|clear c32|clear c32b0|clear c32b1|clear c34|clear c35|clear c37|clear c43|clear c44|clear c44b0|clear c44b1|clear c45|clear p64|clear c83|clear c83b0|clear c83b1|clear c83b2|clear c85|clear c86|clear c86b0|clear c86b1|clear c86b2|clear c87|clear c87b0|clear c87b1|clear c87b2|clear c88|clear c89|clear c89b0|clear c89b1|clear c89b2|clear c90|clear c90b0|clear c90b1|clear c90b2|clear c92|clear c93|clear c93b0|clear c93b1|clear c93b2|clear c94|clear c94b0|clear c94b1|clear c95|clear c95b0|clear c95b1|clear c95b2|clear c96|clear c96b0|clear c96b1|clear c97|clear c97b0|clear c97b1|clear c97b2|clear c98|clear c98b0|clear c98b1|clear c99|clear c99b0|clear c99b1|clear c99b2|clear c100|clear c100b0|clear c100b1|clear c101|clear c110|clear c110b0|clear c110b1|clear c110b2|clear c111|clear c111b0|clear c111b1|clear c111b2|clear c113|clear c114|clear c114b0|clear c114b1|clear c114b2|clear c115|clear c115b0|clear c115b1|clear c116|clear c116b0|clear c116b1|clear c116b2|clear c117|clear c117b0|clear c117b1|clear c118|clear c118b0|clear c118b1|clear c118b2|clear c119|clear c119b0|clear c119b1|clear c120|clear c120b0|clear c120b1|clear c120b2|clear c121|clear c121b0|clear c121b1|clear c122|clear c131|clear c133|clear c135|clear c136|clear c136b0|clear c136b1|clear c138|clear c139|clear c139b0|clear c141)
                     obtain ⟨x62_5, x535000_5, HA, HK5, HO_22, HO_31, HO_53, HO_60, HO_62, IT534, HB⟩ := hrel
                     cases gk with
                     | zero => exact absurd HA.out (by simp [laws_FnOrdersReach.l0])
                     | succ k5 =>
                      have H := HA.out
                      clear HA
                      simp only [laws_FnOrdersReach.l0] at H
                      by_cases c146 : x535000_5 < (t474.size : Int)
                      ·rw [if_pos c146] at H
                       have c146b0 : decide (x535000_5 < (t474.size : Int)) = true := decide_eq_true c146
                       clear c146
                       by_cases c147 : 0 ≤ x535000_5
                       ·rw [if_pos c147] at H
                        have c147b0 := eq_true c147
                        have c147b1 : decide (0 ≤ x535000_5) = true := decide_eq_true c147
                        clear c147
                        by_cases c148 : bt t474 x535000_5 < 128
                        ·rw [if_pos c148] at H
                         have c148b0 := eq_true c148
                         have c148b1 : decide (bt t474 x535000_5 < 128) = true := decide_eq_true c148
                         clear c148
                         replace H := Option.bind_eq_some_iff.mp H
                         obtain ⟨t535, A1490, H⟩ := H
                         (try dsimp only at H)
                         have A149 := Aside0.mk A1490
                         clear A1490
                         replace H := Option.bind_eq_some_iff.mp H
                         obtain ⟨t536, A1500, H⟩ := H
                         (try dsimp only at H)
                         have A150 := Aside0.mk A1500
                         clear A1500
                         by_cases c151 : (t535 != t536) = true
                         ·rw [if_pos c151] at H
                          have c151b0 : (t535 != t536) = true := c151
                          (try (have c151b1 : decide (t535 = t536) = false := by simpa using c151))
                          (try (have c151b2 : (t535 == t536) = false := by simpa using c151))
                          (try (have c151b3 : ¬ (t535 = t536) := by simpa using c151))
                          clear c151
                          by_cases c152 : x62_5.length < 17592186044416
                          ·rw [if_pos c152] at H
                           have LMc152 := Aside0.mk c152
                           clear c152
                           obtain ⟨y537, hy537⟩ : ∃ y_ : List Int, y_ = (x62_5 ++ [x535000_5]) := ⟨_, rfl⟩
                           replace H : (laws_FnOrdersReach.l0 k5 t474 t475 t476 t488 t489 t490 t497 t498 t501 t502 t503 t504 t516 t517 t520 t521 t530 y537 (x535000_5 + 1) t474) = some r := by first | (rw [hy537]; with_reducible exact H) | (have H2_ := (Option.bind_some _ _).symm.trans H; rw [hy537]; with_reducible exact H2_) | (have H2_ := (Option.bind_some _ _).symm.trans H; with_reducible exact H2_) | with_reducible exact H | (rw [hy537]; exact H) | exact H
                           have Ny537 := Aside0.mk hy537
                           clear hy537
                           have H' := Aside0.mk H
                           clear H
                           go_wp2_with (first | ((with_reducible refine gate_dst (N := 412) rfl ?_); (try (refine gate_guard (by rfl) ?_; dsimp only)); refine next_event ?hg (N := 412) ?hd (g := gb534) (s := t474) (p := x535000_5) ?hx ?hb ?h0 ?h1 ?h2 ?_; (case hd => rfl); (case hg => rfl); (case hx => exact ⟨_, rfl, by first | rfl | (go_simp; done) | (go_simp; rfl)⟩); (case hb => exact (by (with_reducible repeat (first | refine blk_drewN ?_ _ | refine blk_drew ?_ | refine blk_alloc ?_ _)); exact IT534.out)); (case h0 => first | (with_reducible decide) | exact of_decide_eq_true (by first | (with_reducible assumption) | assumption)); (case h1 => exact of_decide_eq_true (by first | (with_reducible assumption) | assumption)); (case h2 => exact of_decide_eq_true (by first | (with_reducible assumption) | assumption)); intro w153 hbox hk; replace HO_22 := Aside0.mk (Kd.R_turned (pr HO_22) (by (with_reducible repeat (first | refine blk_drewN ?_ _ | refine blk_drew ?_ | refine blk_alloc ?_ _)); exact IT534.out) hk); replace HO_31 := Aside0.mk (Kd.R_turned (pr HO_31) (by (with_reducible repeat (first | refine blk_drewN ?_ _ | refine blk_drew ?_ | refine blk_alloc ?_ _)); exact IT534.out) hk); replace HO_53 := Aside0.mk (Kd.R_turned (pr HO_53) (by (with_reducible repeat (first | refine blk_drewN ?_ _ | refine blk_drew ?_ | refine blk_alloc ?_ _)); exact IT534.out) hk); replace HO_60 := Aside0.mk (Kd.R_turned (pr HO_60) (by (with_reducible repeat (first | refine blk_drewN ?_ _ | refine blk_drew ?_ | refine blk_alloc ?_ _)); exact IT534.out) hk); replace HO_62 := Aside0.mk (Kd.R_turned (pr HO_62) (by (with_reducible repeat (first | refine blk_drewN ?_ _ | refine blk_drew ?_ | refine blk_alloc ?_ _)); exact IT534.out) hk); replace IT534 := Aside0.mk (hbox); replace HB := Aside0.mk (below_turned bw GE534.out hk); clear hbox hk) | ((with_reducible refine gate_callee (f := 31) rfl ?_); refine gl (some 417) Tryz.func31 #[.slice Ao142 t476.length co142, .int .i64 x535000_5] ?_; (with_reducible refine (laws_mHas.calls k5 _ _ t476 x535000_5 t535 _ ?side1 ?side2 A149.out).mono ?_); (case side1 => repeat (first | exact (Kd.R_reads' HO_22.out).2.2 | (with_reducible refine Kd.C_alloc ?_ _) | (with_reducible refine Kd.C_drewN ?_ _) | (with_reducible refine Kd.C_drew ?_))); (case side2 => exact (Kd.R_reads' HO_22.out).2.1); rintro e w' ⟨rfl, ⟨nd, rfl⟩⟩; refine ⟨_, rfl, ?_⟩; obtain ⟨Ao154, co154, eo154⟩ := Kd.R_slice HO_60.out; subst eo154) | ((with_reducible refine gate_callee (f := 31) rfl ?_); refine gl (some 420) Tryz.func31 #[.slice Ao154 t530.length co154, .int .i64 x535000_5] ?_; (with_reducible refine (laws_mHas.calls k5 _ _ t530 x535000_5 t536 _ ?side1 ?side2 A150.out).mono ?_); (case side1 => repeat (first | exact (Kd.R_reads' HO_60.out).2.2 | (with_reducible refine Kd.C_alloc ?_ _) | (with_reducible refine Kd.C_drewN ?_ _) | (with_reducible refine Kd.C_drew ?_))); (case side2 => exact (Kd.R_reads' HO_60.out).2.1); rintro e w' ⟨rfl, ⟨nd, rfl⟩⟩; refine ⟨_, rfl, ?_⟩) | ((with_reducible refine gate_builtin (b := .append) (xs := #[.tmp 422, .tmp 424]) rfl ?_); (try (refine gate_guard (by rfl) ?_; dsimp only)); at_builtin; refine Kd.R_append (Kd.int .i64) (w0 := w) w.heap.size rfl (.tmp 422) (.tmp 424) 26 3 (.int .i64 0) 8 rfl Tryz.underlying26 info3 rfl (by decide) (by omega) u62 x62_5 x535000_5 [.int .i64 x535000_5] (fun k_ => some k_ ≠ (.slice Ao142 t476.length co142 : Value).ownBlock ∧ some k_ ≠ (v491 : Value).ownBlock ∧ some k_ ≠ (.slice Ao81 t517.length co81 : Value).ownBlock ∧ some k_ ≠ (.slice Ao154 t530.length co154 : Value).ownBlock) (fun _ => False) rfl rfl ?aP (fun _ hk => hk.elim) ?aF ?aO ?aB ?aS ?aL ?_; (case aP => exact rfl); (case aB => exact bw); (case aF => exact (fun k_ hk => ⟨Kd.fresh' (Kd.R_lt (pr HO_22)) k_ hk, Kd.fresh' (Kd.R_lt (pr HO_31)) k_ hk, Kd.fresh' (Kd.R_lt (pr HO_53)) k_ hk, Kd.fresh' (Kd.R_lt (pr HO_60)) k_ hk⟩)); (case aO => exact (pr HO_62)); (case aS => exact (below_size bw)); (case aL => have := LMc152.out; omega); intro v538 w155 ho hb hg hat; rw [← Ny537.out] at ho; have n0_ := Aside0.mk (Kd.R_after (ok := (fun k_ => some k_ ≠ (v491 : Value).ownBlock ∧ some k_ ≠ (.slice Ao81 t517.length co81 : Value).ownBlock ∧ some k_ ≠ (.slice Ao154 t530.length co154 : Value).ownBlock)) (by (with_reducible repeat (first | apply Kd.R_alloc | apply Kd.R_drewN | apply Kd.R_drew)); exact Kd.R_mono HO_22.out (fun _ hk => ⟨⟨hk.1, ⟨hk.2.1, hk.2.2.1⟩⟩, hk.2.2.2⟩)) hg hat); have n1_ := Aside0.mk (Kd.R_after (ok := (fun k_ => some k_ ≠ (.slice Ao142 t476.length co142 : Value).ownBlock ∧ some k_ ≠ (.slice Ao81 t517.length co81 : Value).ownBlock ∧ some k_ ≠ (.slice Ao154 t530.length co154 : Value).ownBlock)) (by (with_reducible repeat (first | apply Kd.R_alloc | apply Kd.R_drewN | apply Kd.R_drew)); exact Kd.R_mono HO_31.out (fun _ hk => ⟨⟨hk.1, ⟨hk.2.1, hk.2.2.1⟩⟩, hk.2.2.2⟩)) hg hat); have n2_ := Aside0.mk (Kd.R_after (ok := (fun k_ => some k_ ≠ (.slice Ao142 t476.length co142 : Value).ownBlock ∧ some k_ ≠ (v491 : Value).ownBlock ∧ some k_ ≠ (.slice Ao154 t530.length co154 : Value).ownBlock)) (by (with_reducible repeat (first | apply Kd.R_alloc | apply Kd.R_drewN | apply Kd.R_drew)); exact Kd.R_mono HO_53.out (fun _ hk => ⟨⟨hk.1, ⟨hk.2.1, hk.2.2.1⟩⟩, hk.2.2.2⟩)) hg hat); have n3_ := Aside0.mk (Kd.R_after (ok := (fun k_ => some k_ ≠ (.slice Ao142 t476.length co142 : Value).ownBlock ∧ some k_ ≠ (v491 : Value).ownBlock ∧ some k_ ≠ (.slice Ao81 t517.length co81 : Value).ownBlock)) (by (with_reducible repeat (first | apply Kd.R_alloc | apply Kd.R_drewN | apply Kd.R_drew)); exact Kd.R_mono HO_60.out (fun _ hk => ⟨⟨hk.1, ⟨hk.2.1, hk.2.2.1⟩⟩, hk.2.2.2⟩)) hg hat); have n4_ := Aside0.mk (blk_grown (g := gb534) (o := .stringIter t474 (x535000_5 + 1 : Int).toNat) (by (with_reducible repeat (first | refine blk_drewN ?_ _ | refine blk_drew ?_ | refine blk_alloc ?_ _)); exact IT534.out) hg (Kd.R_nei HO_62.out IT534.out)); have n5_ := Aside0.mk (hb); have n6_ := Aside0.mk (ho); clear HO_22; clear HO_31; clear HO_53; clear HO_60; clear IT534; clear HB; clear HO_62; have HO_22 := n0_; have HO_31 := n1_; have HO_53 := n2_; have HO_60 := n3_; have IT534 := n4_; have HB := n5_; have HO539 := n6_; clear n0_ n1_ n2_ n3_ n4_ n5_ n6_; clear ho hb hg hat))
                           go_roundg k5
                           case measure => have := HJ9.out; have := HJ26.out; have := HJ41.out; have := HJ64.out; have := HK5.out; omega
                           case rel => exact ⟨(y537), (x535000_5 + 1), H', ⟨by have := HJ9.out; have := HJ26.out; have := HJ41.out; have := HJ64.out; have := HK5.out; omega⟩, ⟨by (with_reducible repeat (first | apply Kd.R_alloc | apply Kd.R_drewN | apply Kd.R_drew)); exact Kd.R_mono HO_22.out (fun _ hk => ⟨hk.1.1, ⟨hk.1.2.1, ⟨hk.1.2.2, hk.2⟩⟩⟩)⟩, ⟨by (with_reducible repeat (first | apply Kd.R_alloc | apply Kd.R_drewN | apply Kd.R_drew)); exact Kd.R_mono HO_31.out (fun _ hk => ⟨hk.1.1, ⟨hk.1.2.1, ⟨hk.1.2.2, hk.2⟩⟩⟩)⟩, ⟨by (with_reducible repeat (first | apply Kd.R_alloc | apply Kd.R_drewN | apply Kd.R_drew)); exact Kd.R_mono HO_53.out (fun _ hk => ⟨hk.1.1, ⟨hk.1.2.1, ⟨hk.1.2.2, hk.2⟩⟩⟩)⟩, ⟨by (with_reducible repeat (first | apply Kd.R_alloc | apply Kd.R_drewN | apply Kd.R_drew)); exact Kd.R_mono HO_60.out (fun _ hk => ⟨hk.1.1, ⟨hk.1.2.1, ⟨hk.1.2.2, hk.2⟩⟩⟩)⟩, ⟨pr HO539⟩, ⟨by (with_reducible repeat (first | refine blk_drewN ?_ _ | refine blk_drew ?_ | refine blk_alloc ?_ _)); exact IT534.out⟩, ⟨bw⟩⟩
                          ·rw [if_neg c152] at H
                           exact absurd H (by simp)
                         ·rw [if_neg c151] at H
                          have c151b0 : (t535 != t536) = false := by simpa using c151
                          (try (have c151b1 : decide (t535 = t536) = true := by simpa using c151))
                          (try (have c151b2 : (t535 == t536) = true := by simpa using c151))
                          clear c151
                          have H' := Aside0.mk H
                          clear H
                          go_wp2_with (first | ((with_reducible refine gate_dst (N := 412) rfl ?_); (try (refine gate_guard (by rfl) ?_; dsimp only)); refine next_event ?hg (N := 412) ?hd (g := gb534) (s := t474) (p := x535000_5) ?hx ?hb ?h0 ?h1 ?h2 ?_; (case hd => rfl); (case hg => rfl); (case hx => exact ⟨_, rfl, by first | rfl | (go_simp; done) | (go_simp; rfl)⟩); (case hb => exact (by (with_reducible repeat (first | refine blk_drewN ?_ _ | refine blk_drew ?_ | refine blk_alloc ?_ _)); exact IT534.out)); (case h0 => first | (with_reducible decide) | exact of_decide_eq_true (by first | (with_reducible assumption) | assumption)); (case h1 => exact of_decide_eq_true (by first | (with_reducible assumption) | assumption)); (case h2 => exact of_decide_eq_true (by first | (with_reducible assumption) | assumption)); intro w156 hbox hk; replace HO_22 := Aside0.mk (Kd.R_turned (pr HO_22) (by (with_reducible repeat (first | refine blk_drewN ?_ _ | refine blk_drew ?_ | refine blk_alloc ?_ _)); exact IT534.out) hk); replace HO_31 := Aside0.mk (Kd.R_turned (pr HO_31) (by (with_reducible repeat (first | refine blk_drewN ?_ _ | refine blk_drew ?_ | refine blk_alloc ?_ _)); exact IT534.out) hk); replace HO_53 := Aside0.mk (Kd.R_turned (pr HO_53) (by (with_reducible repeat (first | refine blk_drewN ?_ _ | refine blk_drew ?_ | refine blk_alloc ?_ _)); exact IT534.out) hk); replace HO_60 := Aside0.mk (Kd.R_turned (pr HO_60) (by (with_reducible repeat (first | refine blk_drewN ?_ _ | refine blk_drew ?_ | refine blk_alloc ?_ _)); exact IT534.out) hk); replace HO_62 := Aside0.mk (Kd.R_turned (pr HO_62) (by (with_reducible repeat (first | refine blk_drewN ?_ _ | refine blk_drew ?_ | refine blk_alloc ?_ _)); exact IT534.out) hk); replace IT534 := Aside0.mk (hbox); replace HB := Aside0.mk (below_turned bw GE534.out hk); clear hbox hk) | ((with_reducible refine gate_callee (f := 31) rfl ?_); refine gl (some 417) Tryz.func31 #[.slice Ao142 t476.length co142, .int .i64 x535000_5] ?_; (with_reducible refine (laws_mHas.calls k5 _ _ t476 x535000_5 t535 _ ?side1 ?side2 A149.out).mono ?_); (case side1 => repeat (first | exact (Kd.R_reads' HO_22.out).2.2 | (with_reducible refine Kd.C_alloc ?_ _) | (with_reducible refine Kd.C_drewN ?_ _) | (with_reducible refine Kd.C_drew ?_))); (case side2 => exact (Kd.R_reads' HO_22.out).2.1); rintro e w' ⟨rfl, ⟨nd, rfl⟩⟩; refine ⟨_, rfl, ?_⟩; obtain ⟨Ao157, co157, eo157⟩ := Kd.R_slice HO_60.out; subst eo157) | ((with_reducible refine gate_callee (f := 31) rfl ?_); refine gl (some 420) Tryz.func31 #[.slice Ao157 t530.length co157, .int .i64 x535000_5] ?_; (with_reducible refine (laws_mHas.calls k5 _ _ t530 x535000_5 t536 _ ?side1 ?side2 A150.out).mono ?_); (case side1 => repeat (first | exact (Kd.R_reads' HO_60.out).2.2 | (with_reducible refine Kd.C_alloc ?_ _) | (with_reducible refine Kd.C_drewN ?_ _) | (with_reducible refine Kd.C_drew ?_))); (case side2 => exact (Kd.R_reads' HO_60.out).2.1); rintro e w' ⟨rfl, ⟨nd, rfl⟩⟩; refine ⟨_, rfl, ?_⟩))
                          go_roundg k5
                          case measure => have := HJ9.out; have := HJ26.out; have := HJ41.out; have := HJ64.out; have := HK5.out; omega
                          case rel => exact ⟨(x62_5), (x535000_5 + 1), H', ⟨by have := HJ9.out; have := HJ26.out; have := HJ41.out; have := HJ64.out; have := HK5.out; omega⟩, ⟨pr HO_22⟩, ⟨pr HO_31⟩, ⟨pr HO_53⟩, ⟨pr HO_60⟩, ⟨pr HO_62⟩, ⟨by (with_reducible repeat (first | refine blk_drewN ?_ _ | refine blk_drew ?_ | refine blk_alloc ?_ _)); exact IT534.out⟩, ⟨bw⟩⟩
                        ·rw [if_neg c148] at H
                         exact absurd H (by simp)
                       ·rw [if_neg c147] at H
                        exact absurd H (by simp)
                      ·rw [if_neg c146] at H
                       have c146b0 : decide (x535000_5 < (t474.size : Int)) = false := decide_eq_false c146
                       clear c146
                       replace H := Option.bind_eq_some_iff.mp H
                       obtain ⟨⟨t540, t541⟩, A1580, H⟩ := H
                       (try dsimp only at H)
                       have A158 := Aside0.mk A1580
                       clear A1580
                       by_cases c159 : t541 = true
                       ·subst c159
                        rw [if_pos rfl] at H
                        by_cases c160 : t540.toList = t475.toList
                        ·rw [if_pos c160] at H
                         have c160b0 : (t540.toList == t475.toList) = true := beq_iff_eq.mpr c160
                         have c160b1 : (t540.toList != t475.toList) = false := bne_eq_false_iff_eq.mpr c160
                         clear c160
                         by_cases c161 : (x62_5.length : Int) < (t476.length : Int)
                         ·rw [if_pos c161] at H
                          exact absurd (Option.some.inj H) (by rw [HRT.out]; decide)
                         ·rw [if_neg c161] at H
                          have c161b0 : decide ((x62_5.length : Int) < (t476.length : Int)) = false := decide_eq_false c161
                          have c161b1 : decide (x62_5.length < t476.length) = false := decide_eq_false (fun h => c161 (Int.ofNat_lt.mpr h))
                          clear c161
                          by_cases c162 : (x62_5.length : Int) = (t476.length : Int)
                          ·rw [if_pos c162] at H
                           have c162b0 : ((x62_5.length : Int) == (t476.length : Int)) = true := beq_iff_eq.mpr c162
                           have c162b1 : ((x62_5.length : Int) != (t476.length : Int)) = false := bne_eq_false_iff_eq.mpr c162
                           have c162b2 : (x62_5.length == t476.length) = true := by first | simpa using c162 | (simp at c162 ⊢; omega)
                           clear c162
                           replace H := Option.bind_eq_some_iff.mp H
                           obtain ⟨t542, A1630, H⟩ := H
                           (try dsimp only at H)
                           have A163 := Aside0.mk A1630
                           clear A1630
                           by_cases c164 : t542 = true
                           ·subst c164
                            rw [if_pos rfl] at H
                            exact absurd (Option.some.inj H) (by rw [HRT.out]; decide)
                           ·replace c164 := Bool.eq_false_iff.mpr c164
                            subst c164
                            rw [if_neg (show ¬ (false = true) by decide)] at H
                            have H' := Aside0.mk H
                            clear H
                            go_wp2_with (first | ((with_reducible refine gate_dst (N := 412) rfl ?_); (try (refine gate_guard (by rfl) ?_; dsimp only)); refine next_end_event ?hg (N := 412) ?hd (g := gb534) (s := t474) (p := x535000_5) ?hx ?hb ?h1 ?_; (case hd => rfl); (case hg => rfl); (case hx => exact ⟨_, rfl, by first | rfl | (go_simp; done) | (go_simp; rfl)⟩); (case hb => exact (by (with_reducible repeat (first | refine blk_drewN ?_ _ | refine blk_drew ?_ | refine blk_alloc ?_ _)); exact IT534.out)); (case h1 => exact of_decide_eq_false (by first | (with_reducible assumption) | assumption)); obtain ⟨Ao165, co165, eo165⟩ := Kd.R_slice HO_62.out; subst eo165) | ((with_reducible refine gate_callee (f := 29) rfl ?_); refine gl (some 429) Tryz.func29 #[.string t474, .slice Ao165 x62_5.length co165] ?_; (with_reducible refine (impl_PlayNeighbours.calls k5 t474 _ _ x62_5 t540 true _ ?side1 ?side2 ?side3 A158.out).mono ?_); (case side1 => exact Dr.mm HMM); (case side2 => repeat (first | exact (Kd.R_reads' HO_62.out).2.2 | (with_reducible refine Kd.C_alloc ?_ _) | (with_reducible refine Kd.C_drewN ?_ _) | (with_reducible refine Kd.C_drew ?_))); (case side3 => exact (Kd.R_reads' HO_62.out).2.1); rintro e w166 ⟨rfl, hb⟩; refine ⟨_, rfl, ?_⟩; replace HO_22 := Aside0.mk (Kd.R_below (pr HO_22) hb); replace HO_31 := Aside0.mk (Kd.R_below (pr HO_31) hb); replace HO_53 := Aside0.mk (Kd.R_below (pr HO_53) hb); replace HO_60 := Aside0.mk (Kd.R_below (pr HO_60) hb); replace HO_62 := Aside0.mk (Kd.R_below (pr HO_62) hb); replace HB := bs hb; (try clear hb)) | (go_at_call 32; (with_reducible refine (laws_mBefore.calls k5 _ _ x62_5 _ _ t476 false _ ?side1 ?side2 ?side3 ?side4 A163.out).mono ?_); (case side1 => repeat (first | exact (Kd.R_reads' HO_62.out).2.2 | (with_reducible refine Kd.C_alloc ?_ _) | (with_reducible refine Kd.C_drewN ?_ _) | (with_reducible refine Kd.C_drew ?_))); (case side2 => exact (Kd.R_reads' HO_62.out).2.1); (case side3 => repeat (first | exact (Kd.R_reads' HO_22.out).2.2 | (with_reducible refine Kd.C_alloc ?_ _) | (with_reducible refine Kd.C_drewN ?_ _) | (with_reducible refine Kd.C_drew ?_))); (case side4 => exact (Kd.R_reads' HO_22.out).2.1); rintro e w' ⟨rfl, ⟨nd, rfl⟩⟩))
                            go_meet
                            case rel => exact ⟨_, H', ⟨by have := HJ9.out; have := HJ26.out; have := HJ41.out; have := HJ64.out; have := HK5.out; first | omega | exact Nat.le_refl _⟩, ⟨by (with_reducible repeat (first | apply Kd.R_alloc | apply Kd.R_drewN | apply Kd.R_drew)); exact Kd.R_mono HO_31.out (fun _ hk => hk.2.1)⟩, ⟨by (with_reducible repeat (first | apply Kd.R_alloc | apply Kd.R_drewN | apply Kd.R_drew)); exact Kd.R_mono HO_53.out (fun _ hk => hk.2.1)⟩, ⟨bw⟩⟩
                          ·rw [if_neg c162] at H
                           have c162b0 : ((x62_5.length : Int) == (t476.length : Int)) = false := beq_eq_false_iff_ne.mpr c162
                           have c162b1 : ((x62_5.length : Int) != (t476.length : Int)) = true := bne_iff_ne.mpr c162
                           have c162b2 : (x62_5.length == t476.length) = false := by first | simpa using c162 | (simp at c162 ⊢; omega)
                           have H' := Aside0.mk H
                           clear H
                           go_wp2_with (first | ((with_reducible refine gate_dst (N := 412) rfl ?_); (try (refine gate_guard (by rfl) ?_; dsimp only)); refine next_end_event ?hg (N := 412) ?hd (g := gb534) (s := t474) (p := x535000_5) ?hx ?hb ?h1 ?_; (case hd => rfl); (case hg => rfl); (case hx => exact ⟨_, rfl, by first | rfl | (go_simp; done) | (go_simp; rfl)⟩); (case hb => exact (by (with_reducible repeat (first | refine blk_drewN ?_ _ | refine blk_drew ?_ | refine blk_alloc ?_ _)); exact IT534.out)); (case h1 => exact of_decide_eq_false (by first | (with_reducible assumption) | assumption)); obtain ⟨Ao167, co167, eo167⟩ := Kd.R_slice HO_62.out; subst eo167) | ((with_reducible refine gate_callee (f := 29) rfl ?_); refine gl (some 429) Tryz.func29 #[.string t474, .slice Ao167 x62_5.length co167] ?_; (with_reducible refine (impl_PlayNeighbours.calls k5 t474 _ _ x62_5 t540 true _ ?side1 ?side2 ?side3 A158.out).mono ?_); (case side1 => exact Dr.mm HMM); (case side2 => repeat (first | exact (Kd.R_reads' HO_62.out).2.2 | (with_reducible refine Kd.C_alloc ?_ _) | (with_reducible refine Kd.C_drewN ?_ _) | (with_reducible refine Kd.C_drew ?_))); (case side3 => exact (Kd.R_reads' HO_62.out).2.1); rintro e w168 ⟨rfl, hb⟩; refine ⟨_, rfl, ?_⟩; replace HO_22 := Aside0.mk (Kd.R_below (pr HO_22) hb); replace HO_31 := Aside0.mk (Kd.R_below (pr HO_31) hb); replace HO_53 := Aside0.mk (Kd.R_below (pr HO_53) hb); replace HO_60 := Aside0.mk (Kd.R_below (pr HO_60) hb); replace HO_62 := Aside0.mk (Kd.R_below (pr HO_62) hb); replace HB := bs hb; (try clear hb)))
                           go_meet
                           case rel => exact ⟨_, H', ⟨by have := HJ9.out; have := HJ26.out; have := HJ41.out; have := HJ64.out; have := HK5.out; first | omega | exact Nat.le_refl _⟩, ⟨by (with_reducible repeat (first | apply Kd.R_alloc | apply Kd.R_drewN | apply Kd.R_drew)); exact Kd.R_mono HO_31.out (fun _ hk => hk.2.1)⟩, ⟨by (with_reducible repeat (first | apply Kd.R_alloc | apply Kd.R_drewN | apply Kd.R_drew)); exact Kd.R_mono HO_53.out (fun _ hk => hk.2.1)⟩, ⟨bw⟩⟩
                        ·rw [if_neg c160] at H
                         exact absurd (Option.some.inj H) (by rw [HRT.out]; decide)
                       ·replace c159 := Bool.eq_false_iff.mpr c159
                        subst c159
                        rw [if_neg (show ¬ (false = true) by decide)] at H
                        exact absurd (Option.some.inj H) (by rw [HRT.out]; decide)
                   ·replace c141 := Bool.eq_false_iff.mpr c141
                    subst c141
                    rw [if_neg (show ¬ (false = true) by decide)] at H
                    have H' := Aside0.mk H
                    clear H
                    obtain ⟨Ao169, co169, eo169⟩ := Kd.R_slice HO_22.out
                    subst eo169
                    go_wp2_with (first | ((with_reducible refine gate_callee (f := 29) rfl ?_); refine gl (some 379) Tryz.func29 #[.string t474, .slice Ao169 t476.length co169] ?_; (with_reducible refine (impl_PlayNeighbours.calls kj64 t474 _ _ t476 t527 true _ ?side1 ?side2 ?side3 A134.out).mono ?_); (case side1 => exact Dr.mm HMM); (case side2 => repeat (first | exact (Kd.R_reads' HO_22.out).2.2 | (with_reducible refine Kd.C_alloc ?_ _) | (with_reducible refine Kd.C_drewN ?_ _) | (with_reducible refine Kd.C_drew ?_))); (case side3 => exact (Kd.R_reads' HO_22.out).2.1); rintro e w170 ⟨rfl, hb⟩; refine ⟨_, rfl, ?_⟩; replace HO_22 := Aside0.mk (Kd.R_below (pr HO_22) hb); replace HO_31 := Aside0.mk (Kd.R_below (pr HO_31) hb); replace HO_53 := Aside0.mk (Kd.R_below (pr HO_53) hb); replace HB := bs hb; (try clear hb)) | (go_at_call 12; (with_reducible refine (laws_mRises.calls kj64 _ _ t476 true _ ?side1 ?side2 A137.out).mono ?_); (case side1 => repeat (first | exact (Kd.R_reads' HO_22.out).2.2 | (with_reducible refine Kd.C_alloc ?_ _) | (with_reducible refine Kd.C_drewN ?_ _) | (with_reducible refine Kd.C_drew ?_))); (case side2 => exact (Kd.R_reads' HO_22.out).2.1); rintro e w' ⟨rfl, ⟨nd, rfl⟩⟩) | ((with_reducible refine gate_callee (f := 19) rfl ?_); refine gl (some 406) Tryz.func19 #[.int .i64 (t474.size : Int)] ?_; (with_reducible refine (impl_IdleOrders.calls kj64 (t474.size : Int) t530 false _ A140.out).mono ?_); rintro e w171 ⟨v532, rfl, ho0, hb⟩; refine ⟨_, rfl, ?_⟩; have HO533 := Aside0.mk (Kd.R_lower (Kd.R_new' (Kd.R_new' (Kd.R_new' ho0 (Kd.R_lt (pr HO_22))) (Kd.R_lt (pr HO_31))) (Kd.R_lt (pr HO_53))) (below_size bw)); replace HO_22 := Aside0.mk (Kd.R_elder' (pr HO_22) (Kd.R_base ho0) hb); replace HO_31 := Aside0.mk (Kd.R_elder' (pr HO_31) (Kd.R_base ho0) hb); replace HO_53 := Aside0.mk (Kd.R_elder' (pr HO_53) (Kd.R_base ho0) hb); replace HB := bs hb; (try clear hb); (try clear ho0)))
                    go_meet
                    case rel => exact ⟨_, H', ⟨by have := HJ9.out; have := HJ26.out; have := HJ41.out; have := HJ64.out; first | omega | exact Nat.le_refl _⟩, ⟨by (with_reducible repeat (first | apply Kd.R_alloc | apply Kd.R_drewN | apply Kd.R_drew)); exact Kd.R_mono HO_31.out (fun _ hk => hk.1.2)⟩, ⟨by (with_reducible repeat (first | apply Kd.R_alloc | apply Kd.R_drewN | apply Kd.R_drew)); exact Kd.R_mono HO_53.out (fun _ hk => hk.1.2)⟩, ⟨bw⟩⟩
                 ·replace c138 := Bool.eq_false_iff.mpr c138
                  subst c138
                  rw [if_neg (show ¬ (false = true) by decide)] at H
                  exact absurd (Option.some.inj H) (by rw [HRT.out]; decide)
                ·rw [if_neg c136] at H
                 exact absurd (Option.some.inj H) (by rw [HRT.out]; decide)
               ·replace c135 := Bool.eq_false_iff.mpr c135
                subst c135
                rw [if_neg (show ¬ (false = true) by decide)] at H
                exact absurd (Option.some.inj H) (by rw [HRT.out]; decide)
              ·replace c133 := Bool.eq_false_iff.mpr c133
               subst c133
               rw [if_neg (show ¬ (false = true) by decide)] at H
               have H' := Aside0.mk H
               clear H
               go_wp2
               go_meet
               case rel => exact ⟨_, H', ⟨by have := HJ9.out; have := HJ26.out; have := HJ41.out; have := HJ64.out; first | omega | exact Nat.le_refl _⟩, ⟨by (with_reducible repeat (first | apply Kd.R_alloc | apply Kd.R_drewN | apply Kd.R_drew)); exact Kd.R_mono HO_31.out (fun _ hk => hk.2)⟩, ⟨by (with_reducible repeat (first | apply Kd.R_alloc | apply Kd.R_drewN | apply Kd.R_drew)); exact Kd.R_mono HO_53.out (fun _ hk => hk.2)⟩, ⟨bw⟩⟩
             case rest =>
              clear HC132
              repeat (first|clear c1|clear c2|clear p2|clear c3|clear c4|clear c5|clear c6|clear p6|clear c7|clear c8|clear c9|clear c10|clear c11|clear c12|clear c13|clear c14|clear c15|clear c16|clear c16b0|clear c16b1|clear c16b2|clear c17|clear c18|clear c19|clear c19b0|clear c19b1|clear c19b2|clear c20|clear c20b0|clear c20b1|clear c20b2|clear c21|clear c22|clear c23|clear c24|clear c25|clear c26|clear c27|clear c28|clear c29|clear c30|clear c31|clear c32|clear c32b0|clear c32b1|clear c34|clear c35|clear c37|clear c43|clear c44|clear c44b0|clear c44b1|clear c45|clear p64|clear c83|clear c83b0|clear c83b1|clear c83b2|clear c85|clear c86|clear c86b0|clear c86b1|clear c86b2|clear c87|clear c87b0|clear c87b1|clear c87b2|clear c88|clear c89|clear c89b0|clear c89b1|clear c89b2|clear c90|clear c90b0|clear c90b1|clear c90b2|clear c92|clear c93|clear c93b0|clear c93b1|clear c93b2|clear c94|clear c94b0|clear c94b1|clear c95|clear c95b0|clear c95b1|clear c95b2|clear c96|clear c96b0|clear c96b1|clear c97|clear c97b0|clear c97b1|clear c97b2|clear c98|clear c98b0|clear c98b1|clear c99|clear c99b0|clear c99b1|clear c99b2|clear c100|clear c100b0|clear c100b1|clear c101|clear c110|clear c110b0|clear c110b1|clear c110b2|clear c111|clear c111b0|clear c111b1|clear c111b2|clear c113|clear c114|clear c114b0|clear c114b1|clear c114b2|clear c115|clear c115b0|clear c115b1|clear c116|clear c116b0|clear c116b1|clear c116b2|clear c117|clear c117b0|clear c117b1|clear c118|clear c118b0|clear c118b1|clear c118b2|clear c119|clear c119b0|clear c119b1|clear c120|clear c120b0|clear c120b1|clear c120b2|clear c121|clear c121b0|clear c121b1|clear c122|clear c131|clear c133|clear c135|clear c136|clear c136b0|clear c136b1|clear c138|clear c139|clear c139b0|clear c141|clear c146|clear c146b0|clear c147|clear c147b0|clear c147b1|clear c148|clear c148b0|clear c148b1|clear c151|clear c151b0|clear c151b1|clear c151b2|clear c152|clear c159|clear c160|clear c160b0|clear c160b1|clear c161|clear c161b0|clear c161b1|clear c162|clear c162b0|clear c162b1|clear c162b2|clear c164)
              obtain ⟨kq, HA, HJ131, HO_31, HO_53, HB⟩ := hcut
              cases kq with
              | zero => exact absurd HA.out (by simp [laws_FnOrdersReach.j5])
              | succ kj131 =>
               have H := HA.out
               clear HA
               simp only [laws_FnOrdersReach.j5] at H
               have HC172 := Aside0.mk H
               clear H
               go_upto_if 458 with (fail)
               go_cut [401, 402, 408, 409, 413, 417, 420, 421, 431, 432, 433, 434, 437, 438, 439, 444, 445, 446, 447, 448, 449, 450, 451, 452, 453, 454, 455, 456, 457, 458] from 9999 (fun _ _ _ _ _ _ _ _ _ _ _ _ _ _ _ _ _ _ _ _ _ _ _ _ _ _ _ _ _ _ wc => ∃ (kq : Nat), Aside0 (laws_FnOrdersReach.j6 kq t488 t489 t490 t501 t502 t503 t504 t516 t517 t520 t521 = some r) ∧ Aside0 (kq ≤ kj131) ∧ Aside0 (Kd.R (Kd.int .i64) 3 wc w.heap.size (fun k_ => some k_ ≠ ((.slice Ao81 t517.length co81) : Value).ownBlock) v491 t489) ∧ Aside0 (Kd.R (Kd.int .i64) 3 wc w.heap.size (fun k_ => some k_ ≠ (v491 : Value).ownBlock) (.slice Ao81 t517.length co81) t517) ∧ Aside0 (Below w.heap.size w wc))
               case first => as_aux_lemma =>
                have H := HC172.out
                clear HC172
                by_cases c173 : t498 = true
                ·subst c173
                 rw [if_pos rfl] at H
                 by_cases c174 : (t490 != ((Int.tmod t488 3) == 2)) = true
                 ·rw [if_pos c174] at H
                  exact absurd (Option.some.inj H) (by rw [HRT.out]; decide)
                 ·rw [if_neg c174] at H
                  have c174b0 : (t490 != ((Int.tmod t488 3) == 2)) = false := by simpa using c174
                  (try (have c174b1 : decide (t490 = ((Int.tmod t488 3) == 2)) = true := by simpa using c174))
                  (try (have c174b2 : (t490 == ((Int.tmod t488 3) == 2)) = true := by simpa using c174))
                  clear c174
                  (first | rw [c174b0] | rw [@decide_eq_true _ _ (of_decide_eq_true c174b1)] | rw [@decide_eq_false _ _ (of_decide_eq_false c174b1)] | (simp only [i64_w, i32_w]; rw [c174b0]) | skip)
                  by_cases c175 : t490 = true
                  ·subst c175
                   rw [if_pos rfl] at H
                   obtain ⟨ji176, hji176⟩ : ∃ j_ : Int, (wrap64 (t488 - 1)) = j_ := ⟨_, rfl⟩
                   replace H : (if 0 ≤ (ji176) then (if t497 = (shl .i64 1 (ji176)) then (laws_FnOrdersReach.j6 kj131 t488 t489 true t501 t502 t503 t504 t516 t517 t520 t521) else (some false)) else (none)) = some r := by first | (rw [hji176] at H; exact H) | (simp only [hji176] at H ⊢; exact H)
                   have hji176w : (IntKind.i64.wrap (t488 - 1)) = ji176 := (i64_w _).trans hji176
                   by_cases c177 : 0 ≤ (ji176)
                   ·rw [if_pos c177] at H
                    have c177b0 := eq_true c177
                    have c177b1 : decide (0 ≤ (ji176)) = true := decide_eq_true c177
                    clear c177
                    obtain ⟨ji178, hji178⟩ : ∃ j_ : Int, (shl .i64 1 (ji176)) = j_ := ⟨_, rfl⟩
                    replace H : (if t497 = (ji178) then (laws_FnOrdersReach.j6 kj131 t488 t489 true t501 t502 t503 t504 t516 t517 t520 t521) else (some false)) = some r := by first | (rw [hji178] at H; exact H) | (simp only [hji178] at H ⊢; exact H)
                    have hji178_ : (IntKind.i64.wrap (1 * 2 ^ min (ji176).toNat 64)) = ji178 := hji178
                    have hji178z : (ji176) ≤ 64 → (IntKind.i64.wrap (1 * 2 ^ (ji176).toNat)) = ji178 := shl_small hji178
                    have hji178u : (IntKind.i64.wrap (2 ^ min (ji176).toNat 64)) = ji178 := by have h_ := hji178_; rw [Int.one_mul] at h_; exact h_
                    have hji178v : (ji176) ≤ 64 → (IntKind.i64.wrap (2 ^ (ji176).toNat)) = ji178 := fun hle_ => by have h_ := hji178z hle_; rw [Int.one_mul] at h_; exact h_
                    have hji178y : (wrap64 (1 * 2 ^ min (ji176).toNat 64)) = ji178 := (i64_w _).symm.trans hji178_
                    have hji178x : (ji176) ≤ 64 → (wrap64 (1 * 2 ^ (ji176).toNat)) = ji178 := fun h_ => (i64_w _).symm.trans (hji178z h_)
                    by_cases c179 : t497 = (ji178)
                    ·rw [if_pos c179] at H
                     have c179b0 : (t497 == (ji178)) = true := beq_iff_eq.mpr c179
                     have c179b1 : (t497 != (ji178)) = false := bne_eq_false_iff_eq.mpr c179
                     clear c179
                     have H' := Aside0.mk H
                     clear H
                     go_wp2
                     go_meet
                     case rel => exact ⟨_, H', ⟨by have := HJ9.out; have := HJ26.out; have := HJ41.out; have := HJ64.out; have := HJ131.out; first | omega | exact Nat.le_refl _⟩, ⟨pr HO_31⟩, ⟨pr HO_53⟩, ⟨bw⟩⟩
                    ·rw [if_neg c179] at H
                     exact absurd (Option.some.inj H) (by rw [HRT.out]; decide)
                   ·rw [if_neg c177] at H
                    exact absurd H (by simp)
                  ·replace c175 := Bool.eq_false_iff.mpr c175
                   subst c175
                   rw [if_neg (show ¬ (false = true) by decide)] at H
                   by_cases c180 : 0 ≤ t488
                   ·rw [if_pos c180] at H
                    have c180b0 := eq_true c180
                    have c180b1 : decide (0 ≤ t488) = true := decide_eq_true c180
                    clear c180
                    obtain ⟨ji181, hji181⟩ : ∃ j_ : Int, (shl .i64 1 t488) = j_ := ⟨_, rfl⟩
                    replace H : (if t497 = (ji181) then (laws_FnOrdersReach.j6 kj131 t488 t489 false t501 t502 t503 t504 t516 t517 t520 t521) else (some false)) = some r := by first | (rw [hji181] at H; exact H) | (simp only [hji181] at H ⊢; exact H)
                    have hji181_ : (IntKind.i64.wrap (1 * 2 ^ min t488.toNat 64)) = ji181 := hji181
                    have hji181z : t488 ≤ 64 → (IntKind.i64.wrap (1 * 2 ^ t488.toNat)) = ji181 := shl_small hji181
                    have hji181u : (IntKind.i64.wrap (2 ^ min t488.toNat 64)) = ji181 := by have h_ := hji181_; rw [Int.one_mul] at h_; exact h_
                    have hji181v : t488 ≤ 64 → (IntKind.i64.wrap (2 ^ t488.toNat)) = ji181 := fun hle_ => by have h_ := hji181z hle_; rw [Int.one_mul] at h_; exact h_
                    have hji181y : (wrap64 (1 * 2 ^ min t488.toNat 64)) = ji181 := (i64_w _).symm.trans hji181_
                    have hji181x : t488 ≤ 64 → (wrap64 (1 * 2 ^ t488.toNat)) = ji181 := fun h_ => (i64_w _).symm.trans (hji181z h_)
                    by_cases c182 : t497 = (ji181)
                    ·rw [if_pos c182] at H
                     have c182b0 : (t497 == (ji181)) = true := beq_iff_eq.mpr c182
                     have c182b1 : (t497 != (ji181)) = false := bne_eq_false_iff_eq.mpr c182
                     clear c182
                     have H' := Aside0.mk H
                     clear H
                     go_wp2
                     go_meet
                     case rel => exact ⟨_, H', ⟨by have := HJ9.out; have := HJ26.out; have := HJ41.out; have := HJ64.out; have := HJ131.out; first | omega | exact Nat.le_refl _⟩, ⟨pr HO_31⟩, ⟨pr HO_53⟩, ⟨bw⟩⟩
                    ·rw [if_neg c182] at H
                     exact absurd (Option.some.inj H) (by rw [HRT.out]; decide)
                   ·rw [if_neg c180] at H
                    exact absurd H (by simp)
                ·replace c173 := Bool.eq_false_iff.mpr c173
                 subst c173
                 rw [if_neg (show ¬ (false = true) by decide)] at H
                 have H' := Aside0.mk H
                 clear H
                 go_wp2
                 go_meet
                 case rel => exact ⟨_, H', ⟨by have := HJ9.out; have := HJ26.out; have := HJ41.out; have := HJ64.out; have := HJ131.out; first | omega | exact Nat.le_refl _⟩, ⟨pr HO_31⟩, ⟨pr HO_53⟩, ⟨bw⟩⟩
               case rest =>
                clear HC172
                repeat (first|clear c1|clear c2|clear p2|clear c3|clear c4|clear c5|clear c6|clear p6|clear c7|clear c8|clear c9|clear c10|clear c11|clear c12|clear c13|clear c14|clear c15|clear c16|clear c16b0|clear c16b1|clear c16b2|clear c17|clear c18|clear c19|clear c19b0|clear c19b1|clear c19b2|clear c20|clear c20b0|clear c20b1|clear c20b2|clear c21|clear c22|clear c23|clear c24|clear c25|clear c26|clear c27|clear c28|clear c29|clear c30|clear c31|clear c32|clear c32b0|clear c32b1|clear c34|clear c35|clear c37|clear c43|clear c44|clear c44b0|clear c44b1|clear c45|clear p64|clear c83|clear c83b0|clear c83b1|clear c83b2|clear c85|clear c86|clear c86b0|clear c86b1|clear c86b2|clear c87|clear c87b0|clear c87b1|clear c87b2|clear c88|clear c89|clear c89b0|clear c89b1|clear c89b2|clear c90|clear c90b0|clear c90b1|clear c90b2|clear c92|clear c93|clear c93b0|clear c93b1|clear c93b2|clear c94|clear c94b0|clear c94b1|clear c95|clear c95b0|clear c95b1|clear c95b2|clear c96|clear c96b0|clear c96b1|clear c97|clear c97b0|clear c97b1|clear c97b2|clear c98|clear c98b0|clear c98b1|clear c99|clear c99b0|clear c99b1|clear c99b2|clear c100|clear c100b0|clear c100b1|clear c101|clear c110|clear c110b0|clear c110b1|clear c110b2|clear c111|clear c111b0|clear c111b1|clear c111b2|clear c113|clear c114|clear c114b0|clear c114b1|clear c114b2|clear c115|clear c115b0|clear c115b1|clear c116|clear c116b0|clear c116b1|clear c116b2|clear c117|clear c117b0|clear c117b1|clear c118|clear c118b0|clear c118b1|clear c118b2|clear c119|clear c119b0|clear c119b1|clear c120|clear c120b0|clear c120b1|clear c120b2|clear c121|clear c121b0|clear c121b1|clear c122|clear c131|clear c133|clear c135|clear c136|clear c136b0|clear c136b1|clear c138|clear c139|clear c139b0|clear c141|clear c146|clear c146b0|clear c147|clear c147b0|clear c147b1|clear c148|clear c148b0|clear c148b1|clear c151|clear c151b0|clear c151b1|clear c151b2|clear c152|clear c159|clear c160|clear c160b0|clear c160b1|clear c161|clear c161b0|clear c161b1|clear c162|clear c162b0|clear c162b1|clear c162b2|clear c164|clear c173|clear c174|clear c174b0|clear c174b1|clear c174b2|clear c175|clear c177|clear c177b0|clear c177b1|clear c179|clear c179b0|clear c179b1|clear c180|clear c180b0|clear c180b1|clear c182|clear c182b0|clear c182b1)
                obtain ⟨kq, HA, HJ171, HO_31, HO_53, HB⟩ := hcut
                cases kq with
                | zero => exact absurd HA.out (by simp [laws_FnOrdersReach.j6])
                | succ kj171 =>
                 have H := HA.out
                 clear HA
                 simp only [laws_FnOrdersReach.j6] at H
                 have HC183 := Aside0.mk H
                 clear H
                 go_upto_if 484 with (fail)
                 go_cut [431, 432, 433, 434, 437, 438, 439, 444, 445, 446, 451, 452, 455, 456, 457, 458, 459, 462, 463, 464, 465, 466, 467, 471, 472, 473, 474, 475, 476, 477, 478, 479, 480, 481, 482, 483, 484] from 9999 (fun _ _ _ _ _ _ _ _ _ _ _ _ _ _ _ _ _ _ _ _ _ _ _ _ _ _ _ _ _ _ _ _ _ _ _ _ _ wc => ∃ (kq : Nat), Aside0 (laws_FnOrdersReach.j8 kq t501 t502 t503 t504 t516 t517 t520 t521 = some r) ∧ Aside0 (kq ≤ kj171) ∧ Aside0 (Kd.R (Kd.int .i64) 3 wc w.heap.size (fun _ => True) (.slice Ao81 t517.length co81) t517) ∧ Aside0 (Below w.heap.size w wc))
                 case first => as_aux_lemma =>
                  have H := HC183.out
                  clear HC183
                  by_cases c184 : t490 = true
                  ·subst c184
                   rw [if_pos rfl] at H
                   have H' := Aside0.mk H
                   clear H
                   go_wp2
                   go_loopg [66, 67] kj171 (fun kq v66 v67 w' => ∃ (x66_7 : ByteArray) (x67_7 : Int), v66 = .string x66_7 ∧ v67 = .int .i64 x67_7 ∧ Aside0 (laws_FnOrdersReach.l1 kq t488 t489 t501 t502 t503 t504 t516 t517 t520 t521 x66_7 x67_7 = some r) ∧ Aside0 (kq ≤ kj171) ∧ Aside0 (Kd.R (Kd.int .i64) 3 w' w.heap.size (fun k_ => some k_ ≠ ((.slice Ao81 t517.length co81) : Value).ownBlock) v491 t489) ∧ Aside0 (Kd.R (Kd.int .i64) 3 w' w.heap.size (fun k_ => some k_ ≠ (v491 : Value).ownBlock) (.slice Ao81 t517.length co81) t517) ∧ Aside0 (Below w.heap.size w w'))
                   case atStart => exact ⟨((⟨#[]⟩ : ByteArray)), (0), (rs), (rs), H', ⟨Nat.le_refl _⟩, ⟨pr HO_31⟩, ⟨pr HO_53⟩, ⟨bw⟩⟩
                   case round =>
                    clear H'
                    repeat (first|clear c1|clear c2|clear p2|clear c3|clear c4|clear c5|clear c6|clear p6|clear c7|clear c8|clear c9|clear c10|clear c11|clear c12|clear c13|clear c14|clear c15|clear c16|clear c16b0|clear c16b1|clear c16b2|clear c17|clear c18|clear c19|clear c19b0|clear c19b1|clear c19b2|clear c20|clear c20b0|clear c20b1|clear c20b2|clear c21|clear c22|clear c23|clear c24|clear c25|clear c26|clear c27|clear c28|clear c29|clear c30|clear c31|clear c32|clear c32b0|clear c32b1|clear c34|clear c35|clear c37|clear c43|clear c44|clear c44b0|clear c44b1|clear c45|clear p64|clear c83|clear c83b0|clear c83b1|clear c83b2|clear c85|clear c86|clear c86b0|clear c86b1|clear c86b2|clear c87|clear c87b0|clear c87b1|clear c87b2|clear c88|clear c89|clear c89b0|clear c89b1|clear c89b2|clear c90|clear c90b0|clear c90b1|clear c90b2|clear c92|clear c93|clear c93b0|clear c93b1|clear c93b2|clear c94|clear c94b0|clear c94b1|clear c95|clear c95b0|clear c95b1|clear c95b2|clear c96|clear c96b0|clear c96b1|clear c97|clear c97b0|clear c97b1|clear c97b2|clear c98|clear c98b0|clear c98b1|clear c99|clear c99b0|clear c99b1|clear c99b2|clear c100|clear c100b0|clear c100b1|clear c101|clear c110|clear c110b0|clear c110b1|clear c110b2|clear c111|clear c111b0|clear c111b1|clear c111b2|clear c113|clear c114|clear c114b0|clear c114b1|clear c114b2|clear c115|clear c115b0|clear c115b1|clear c116|clear c116b0|clear c116b1|clear c116b2|clear c117|clear c117b0|clear c117b1|clear c118|clear c118b0|clear c118b1|clear c118b2|clear c119|clear c119b0|clear c119b1|clear c120|clear c120b0|clear c120b1|clear c120b2|clear c121|clear c121b0|clear c121b1|clear c122|clear c131|clear c133|clear c135|clear c136|clear c136b0|clear c136b1|clear c138|clear c139|clear c139b0|clear c141|clear c146|clear c146b0|clear c147|clear c147b0|clear c147b1|clear c148|clear c148b0|clear c148b1|clear c151|clear c151b0|clear c151b1|clear c151b2|clear c152|clear c159|clear c160|clear c160b0|clear c160b1|clear c161|clear c161b0|clear c161b1|clear c162|clear c162b0|clear c162b1|clear c162b2|clear c164|clear c173|clear c174|clear c174b0|clear c174b1|clear c174b2|clear c175|clear c177|clear c177b0|clear c177b1|clear c179|clear c179b0|clear c179b1|clear c180|clear c180b0|clear c180b1|clear c182|clear c182b0|clear c182b1|clear c184)
                    obtain ⟨x66_7, x67_7, rfl, rfl, HA, HK7, HO_31, HO_53, HB⟩ := hrel
                    cases gk with
                    | zero => exact absurd HA.out (by simp [laws_FnOrdersReach.l1])
                    | succ k7 =>
                     have H := HA.out
                     clear HA
                     simp only [laws_FnOrdersReach.l1] at H
                     by_cases c185 : x67_7 < t488
                     ·rw [if_pos c185] at H
                      have c185b0 : decide (x67_7 < t488) = true := decide_eq_true c185
                      clear c185
                      (first | rw [c185b0] | rw [@decide_eq_true _ _ (of_decide_eq_true c185b1)] | rw [@decide_eq_false _ _ (of_decide_eq_false c185b1)] | (simp only [i64_w, i32_w]; rw [c185b0]) | skip)
                      by_cases c186 : x66_7.size + 1 ≤ 9223372036854775807
                      ·rw [if_pos c186] at H
                       have c186b0 := eq_true c186
                       have c186b1 : decide (x66_7.size + 1 ≤ 9223372036854775807) = true := decide_eq_true c186
                       try have c186b2 : (9223372036854775807 < x66_7.size + 1) = False := eq_false (Nat.not_lt.2 c186)
                       have H' := Aside0.mk H
                       clear H
                       go_wp2
                       go_roundg k7
                       case measure => have := HJ9.out; have := HJ26.out; have := HJ41.out; have := HJ64.out; have := HJ131.out; have := HJ171.out; have := HK7.out; omega
                       case rel => exact ⟨(x66_7 ++ (⟨#[60]⟩ : ByteArray)), (wrap64 (x67_7 + 1)), (rs), (rs), H', ⟨by have := HJ9.out; have := HJ26.out; have := HJ41.out; have := HJ64.out; have := HJ131.out; have := HJ171.out; have := HK7.out; omega⟩, ⟨pr HO_31⟩, ⟨pr HO_53⟩, ⟨bw⟩⟩
                      ·rw [if_neg c186] at H
                       exact absurd H (by simp)
                     ·rw [if_neg c185] at H
                      have c185b0 : decide (x67_7 < t488) = false := decide_eq_false c185
                      clear c185
                      (first | rw [c185b0] | rw [@decide_eq_true _ _ (of_decide_eq_true c185b1)] | rw [@decide_eq_false _ _ (of_decide_eq_false c185b1)] | (simp only [i64_w, i32_w]; rw [c185b0]) | skip)
                      replace H := Option.bind_eq_some_iff.mp H
                      obtain ⟨⟨t543, t544⟩, A1870, H⟩ := H
                      (try dsimp only at H)
                      have A187 := Aside0.mk A1870
                      clear A1870
                      by_cases c188 : t544 = true
                      ·subst c188
                       rw [if_pos rfl] at H
                       by_cases c189 : t543.toList = x66_7.toList
                       ·rw [if_pos c189] at H
                        have c189b0 : (t543.toList == x66_7.toList) = true := beq_iff_eq.mpr c189
                        have c189b1 : (t543.toList != x66_7.toList) = false := bne_eq_false_iff_eq.mpr c189
                        clear c189
                        by_cases c190 : (t489.length : Int) < 1
                        ·rw [if_pos c190] at H
                         exact absurd (Option.some.inj H) (by rw [HRT.out]; decide)
                        ·rw [if_neg c190] at H
                         have c190b0 : decide ((t489.length : Int) < 1) = false := decide_eq_false c190
                         have c190b1 : decide (t489.length < 1) = false := decide_eq_false (by omega)
                         clear c190
                         replace H := Option.bind_eq_some_iff.mp H
                         obtain ⟨t545, A1910, H⟩ := H
                         (try dsimp only at H)
                         have A191 := Aside0.mk A1910
                         clear A1910
                         by_cases c192 : t545 = true
                         ·subst c192
                          rw [if_pos rfl] at H
                          have H' := Aside0.mk H
                          clear H
                          obtain ⟨Ao193, co193, eo193⟩ := Kd.R_slice HO_31.out
                          subst eo193
                          go_wp2_with (first | ((with_reducible refine gate_callee (f := 29) rfl ?_); refine gl (some 495) Tryz.func29 #[.string x66_7, .slice Ao193 t489.length co193] ?_; (with_reducible refine (impl_PlayNeighbours.calls k7 x66_7 _ _ t489 t543 true _ ?side1 ?side2 ?side3 A187.out).mono ?_); (case side1 => exact Dr.mm HMM); (case side2 => repeat (first | exact (Kd.R_reads' HO_31.out).2.2 | (with_reducible refine Kd.C_alloc ?_ _) | (with_reducible refine Kd.C_drewN ?_ _) | (with_reducible refine Kd.C_drew ?_))); (case side3 => exact (Kd.R_reads' HO_31.out).2.1); rintro e w194 ⟨rfl, hb⟩; refine ⟨_, rfl, ?_⟩; replace HO_31 := Aside0.mk (Kd.R_below (pr HO_31) hb); replace HO_53 := Aside0.mk (Kd.R_below (pr HO_53) hb); replace HB := bs hb; (try clear hb)) | (go_at_call 12; (with_reducible refine (laws_mRises.calls k7 _ _ t489 true _ ?side1 ?side2 A191.out).mono ?_); (case side1 => repeat (first | exact (Kd.R_reads' HO_31.out).2.2 | (with_reducible refine Kd.C_alloc ?_ _) | (with_reducible refine Kd.C_drewN ?_ _) | (with_reducible refine Kd.C_drew ?_))); (case side2 => exact (Kd.R_reads' HO_31.out).2.1); rintro e w' ⟨rfl, ⟨nd, rfl⟩⟩))
                          go_meet
                          case rel => exact ⟨_, H', ⟨by have := HJ9.out; have := HJ26.out; have := HJ41.out; have := HJ64.out; have := HJ131.out; have := HJ171.out; have := HK7.out; first | omega | exact Nat.le_refl _⟩, ⟨by (with_reducible repeat (first | apply Kd.R_alloc | apply Kd.R_drewN | apply Kd.R_drew)); exact Kd.R_mono HO_53.out (fun _ hk => trivial)⟩, ⟨bw⟩⟩
                         ·replace c192 := Bool.eq_false_iff.mpr c192
                          subst c192
                          rw [if_neg (show ¬ (false = true) by decide)] at H
                          exact absurd (Option.some.inj H) (by rw [HRT.out]; decide)
                       ·rw [if_neg c189] at H
                        exact absurd (Option.some.inj H) (by rw [HRT.out]; decide)
                      ·replace c188 := Bool.eq_false_iff.mpr c188
                       subst c188
                       rw [if_neg (show ¬ (false = true) by decide)] at H
                       exact absurd (Option.some.inj H) (by rw [HRT.out]; decide)
                  ·replace c184 := Bool.eq_false_iff.mpr c184
                   subst c184
                   rw [if_neg (show ¬ (false = true) by decide)] at H
                   have H' := Aside0.mk H
                   clear H
                   go_wp2
                   go_meet
                   case rel => exact ⟨_, H', ⟨by have := HJ9.out; have := HJ26.out; have := HJ41.out; have := HJ64.out; have := HJ131.out; have := HJ171.out; first | omega | exact Nat.le_refl _⟩, ⟨by (with_reducible repeat (first | apply Kd.R_alloc | apply Kd.R_drewN | apply Kd.R_drew)); exact Kd.R_mono HO_53.out (fun _ hk => trivial)⟩, ⟨bw⟩⟩
                 case rest =>
                  clear HC183
                  repeat (first|clear c1|clear c2|clear p2|clear c3|clear c4|clear c5|clear c6|clear p6|clear c7|clear c8|clear c9|clear c10|clear c11|clear c12|clear c13|clear c14|clear c15|clear c16|clear c16b0|clear c16b1|clear c16b2|clear c17|clear c18|clear c19|clear c19b0|clear c19b1|clear c19b2|clear c20|clear c20b0|clear c20b1|clear c20b2|clear c21|clear c22|clear c23|clear c24|clear c25|clear c26|clear c27|clear c28|clear c29|clear c30|clear c31|clear c32|clear c32b0|clear c32b1|clear c34|clear c35|clear c37|clear c43|clear c44|clear c44b0|clear c44b1|clear c45|clear p64|clear c83|clear c83b0|clear c83b1|clear c83b2|clear c85|clear c86|clear c86b0|clear c86b1|clear c86b2|clear c87|clear c87b0|clear c87b1|clear c87b2|clear c88|clear c89|clear c89b0|clear c89b1|clear c89b2|clear c90|clear c90b0|clear c90b1|clear c90b2|clear c92|clear c93|clear c93b0|clear c93b1|clear c93b2|clear c94|clear c94b0|clear c94b1|clear c95|clear c95b0|clear c95b1|clear c95b2|clear c96|clear c96b0|clear c96b1|clear c97|clear c97b0|clear c97b1|clear c97b2|clear c98|clear c98b0|clear c98b1|clear c99|clear c99b0|clear c99b1|clear c99b2|clear c100|clear c100b0|clear c100b1|clear c101|clear c110|clear c110b0|clear c110b1|clear c110b2|clear c111|clear c111b0|clear c111b1|clear c111b2|clear c113|clear c114|clear c114b0|clear c114b1|clear c114b2|clear c115|clear c115b0|clear c115b1|clear c116|clear c116b0|clear c116b1|clear c116b2|clear c117|clear c117b0|clear c117b1|clear c118|clear c118b0|clear c118b1|clear c118b2|clear c119|clear c119b0|clear c119b1|clear c120|clear c120b0|clear c120b1|clear c120b2|clear c121|clear c121b0|clear c121b1|clear c122|clear c131|clear c133|clear c135|clear c136|clear c136b0|clear c136b1|clear c138|clear c139|clear c139b0|clear c141|clear c146|clear c146b0|clear c147|clear c147b0|clear c147b1|clear c148|clear c148b0|clear c148b1|clear c151|clear c151b0|clear c151b1|clear c151b2|clear c152|clear c159|clear c160|clear c160b0|clear c160b1|clear c161|clear c161b0|clear c161b1|clear c162|clear c162b0|clear c162b1|clear c162b2|clear c164|clear c173|clear c174|clear c174b0|clear c174b1|clear c174b2|clear c175|clear c177|clear c177b0|clear c177b1|clear c179|clear c179b0|clear c179b1|clear c180|clear c180b0|clear c180b1|clear c182|clear c182b0|clear c182b1|clear c184|clear c185|clear c185b0|clear c186|clear c186b0|clear c186b1|clear c186b2|clear c188|clear c189|clear c189b0|clear c189b1|clear c190|clear c190b0|clear c190b1|clear c192)
                  obtain ⟨kq, HA, HJ182, HO_53, HB⟩ := hcut
                  cases kq with
                  | zero => exact absurd HA.out (by simp [laws_FnOrdersReach.j8])
                  | succ kj182 =>
                   have H := HA.out
                   clear HA
                   simp only [laws_FnOrdersReach.j8] at H
                   have HC195 := Aside0.mk H
                   clear H
                   go_upto_region 65 with (fail)
                   go_cut [455, 456, 457, 458, 459, 462, 463, 464, 465, 466, 467, 471, 472, 473, 474, 475, 476, 481, 482, 483, 484, 487, 497, 498, 499, 500, 501, 502, 503, 504, 505, 506, 507, 508, 509, 510, 511, 512, 513, 514, 524] from 9999 (fun _ _ _ _ _ _ _ _ _ _ _ _ _ _ _ _ _ _ _ _ _ _ _ _ _ _ _ _ _ _ _ _ _ _ _ _ _ _ _ _ v524 wc => ∃ (kq : Nat) (x524_194 : Bool), v524 = .bool x524_194 ∧ Aside0 (laws_FnOrdersReach.j9 kq t516 t517 t520 t521 x524_194 = some r) ∧ Aside0 (kq ≤ kj182) ∧ Aside0 (Kd.R (Kd.int .i64) 3 wc w.heap.size (fun _ => True) (.slice Ao81 t517.length co81) t517) ∧ Aside0 (Below w.heap.size w wc))
                   case first => as_aux_lemma =>
                    have H := HC195.out
                    clear HC195
                    by_cases c196 : t504 = true
                    ·subst c196
                     rw [if_pos rfl] at H
                     obtain ⟨ji197, hji197⟩ : ∃ j_ : Int, (wrap64 ((wrap64 (t501 - t502)) + 1)) = j_ := ⟨_, rfl⟩
                     replace H : (if 0 ≤ (ji197) then (laws_FnOrdersReach.j9 kj182 t516 t517 t520 t521 (t503 != (shl .i64 1 (ji197)))) else (none)) = some r := by first | (rw [hji197] at H; exact H) | (simp only [hji197] at H ⊢; exact H)
                     have hji197w : (IntKind.i64.wrap ((wrap64 (t501 - t502)) + 1)) = ji197 := (i64_w _).trans hji197
                     by_cases c198 : 0 ≤ (ji197)
                     ·rw [if_pos c198] at H
                      have c198b0 := eq_true c198
                      have c198b1 : decide (0 ≤ (ji197)) = true := decide_eq_true c198
                      clear c198
                      obtain ⟨ji199, hji199⟩ : ∃ j_ : Int, (shl .i64 1 (ji197)) = j_ := ⟨_, rfl⟩
                      replace H : (laws_FnOrdersReach.j9 kj182 t516 t517 t520 t521 (t503 != (ji199))) = some r := by first | (rw [hji199] at H; exact H) | (simp only [hji199] at H ⊢; exact H)
                      have hji199_ : (IntKind.i64.wrap (1 * 2 ^ min (ji197).toNat 64)) = ji199 := hji199
                      have hji199z : (ji197) ≤ 64 → (IntKind.i64.wrap (1 * 2 ^ (ji197).toNat)) = ji199 := shl_small hji199
                      have hji199u : (IntKind.i64.wrap (2 ^ min (ji197).toNat 64)) = ji199 := by have h_ := hji199_; rw [Int.one_mul] at h_; exact h_
                      have hji199v : (ji197) ≤ 64 → (IntKind.i64.wrap (2 ^ (ji197).toNat)) = ji199 := fun hle_ => by have h_ := hji199z hle_; rw [Int.one_mul] at h_; exact h_
                      have hji199y : (wrap64 (1 * 2 ^ min (ji197).toNat 64)) = ji199 := (i64_w _).symm.trans hji199_
                      have hji199x : (ji197) ≤ 64 → (wrap64 (1 * 2 ^ (ji197).toNat)) = ji199 := fun h_ => (i64_w _).symm.trans (hji199z h_)
                      have H' := Aside0.mk H
                      clear H
                      go_wp2
                      go_meet
                      case rel => exact ⟨_, ((t503 != (ji199))), (by first | rfl | (simp; done) | (simp only [← hji199] <;> (first | rfl | simp)) | (simp [*]; done)), H', ⟨by have := HJ9.out; have := HJ26.out; have := HJ41.out; have := HJ64.out; have := HJ131.out; have := HJ171.out; have := HJ182.out; first | omega | exact Nat.le_refl _⟩, ⟨pr HO_53⟩, ⟨bw⟩⟩
                     ·rw [if_neg c198] at H
                      exact absurd H (by simp)
                    ·replace c196 := Bool.eq_false_iff.mpr c196
                     subst c196
                     rw [if_neg (show ¬ (false = true) by decide)] at H
                     have H' := Aside0.mk H
                     clear H
                     go_wp2
                     go_meet
                     case rel => exact ⟨_, (false), (rs), H', ⟨by have := HJ9.out; have := HJ26.out; have := HJ41.out; have := HJ64.out; have := HJ131.out; have := HJ171.out; have := HJ182.out; first | omega | exact Nat.le_refl _⟩, ⟨pr HO_53⟩, ⟨bw⟩⟩
                   case rest =>
                    clear HC195
                    repeat (first|clear c1|clear c2|clear p2|clear c3|clear c4|clear c5|clear c6|clear p6|clear c7|clear c8|clear c9|clear c10|clear c11|clear c12|clear c13|clear c14|clear c15|clear c16|clear c16b0|clear c16b1|clear c16b2|clear c17|clear c18|clear c19|clear c19b0|clear c19b1|clear c19b2|clear c20|clear c20b0|clear c20b1|clear c20b2|clear c21|clear c22|clear c23|clear c24|clear c25|clear c26|clear c27|clear c28|clear c29|clear c30|clear c31|clear c32|clear c32b0|clear c32b1|clear c34|clear c35|clear c37|clear c43|clear c44|clear c44b0|clear c44b1|clear c45|clear p64|clear c83|clear c83b0|clear c83b1|clear c83b2|clear c85|clear c86|clear c86b0|clear c86b1|clear c86b2|clear c87|clear c87b0|clear c87b1|clear c87b2|clear c88|clear c89|clear c89b0|clear c89b1|clear c89b2|clear c90|clear c90b0|clear c90b1|clear c90b2|clear c92|clear c93|clear c93b0|clear c93b1|clear c93b2|clear c94|clear c94b0|clear c94b1|clear c95|clear c95b0|clear c95b1|clear c95b2|clear c96|clear c96b0|clear c96b1|clear c97|clear c97b0|clear c97b1|clear c97b2|clear c98|clear c98b0|clear c98b1|clear c99|clear c99b0|clear c99b1|clear c99b2|clear c100|clear c100b0|clear c100b1|clear c101|clear c110|clear c110b0|clear c110b1|clear c110b2|clear c111|clear c111b0|clear c111b1|clear c111b2|clear c113|clear c114|clear c114b0|clear c114b1|clear c114b2|clear c115|clear c115b0|clear c115b1|clear c116|clear c116b0|clear c116b1|clear c116b2|clear c117|clear c117b0|clear c117b1|clear c118|clear c118b0|clear c118b1|clear c118b2|clear c119|clear c119b0|clear c119b1|clear c120|clear c120b0|clear c120b1|clear c120b2|clear c121|clear c121b0|clear c121b1|clear c122|clear c131|clear c133|clear c135|clear c136|clear c136b0|clear c136b1|clear c138|clear c139|clear c139b0|clear c141|clear c146|clear c146b0|clear c147|clear c147b0|clear c147b1|clear c148|clear c148b0|clear c148b1|clear c151|clear c151b0|clear c151b1|clear c151b2|clear c152|clear c159|clear c160|clear c160b0|clear c160b1|clear c161|clear c161b0|clear c161b1|clear c162|clear c162b0|clear c162b1|clear c162b2|clear c164|clear c173|clear c174|clear c174b0|clear c174b1|clear c174b2|clear c175|clear c177|clear c177b0|clear c177b1|clear c179|clear c179b0|clear c179b1|clear c180|clear c180b0|clear c180b1|clear c182|clear c182b0|clear c182b1|clear c184|clear c185|clear c185b0|clear c186|clear c186b0|clear c186b1|clear c186b2|clear c188|clear c189|clear c189b0|clear c189b1|clear c190|clear c190b0|clear c190b1|clear c192|clear c196|clear c198|clear c198b0|clear c198b1)
                    obtain ⟨kq, x524_194, rfl, HA, HJ194, HO_53, HB⟩ := hcut
                    cases kq with
                    | zero => exact absurd HA.out (by simp [laws_FnOrdersReach.j9])
                    | succ kj194 =>
                     have H := HA.out
                     clear HA
                     simp only [laws_FnOrdersReach.j9] at H
                     by_cases c200 : x524_194 = true
                     ·subst c200
                      rw [if_pos rfl] at H
                      exact absurd (Option.some.inj H) (by rw [HRT.out]; decide)
                     ·replace c200 := Bool.eq_false_iff.mpr c200
                      subst c200
                      rw [if_neg (show ¬ (false = true) by decide)] at H
                      by_cases c201 : t521 = true
                      ·subst c201
                       rw [if_pos rfl] at H
                       have H' := Aside0.mk H
                       clear H
                       go_wp2
                       go_loopg [70, 529] kj194 (fun kq v70 v529 w' => ∃ (x70_9 : ByteArray) (x529_9 : Int), v70 = .string x70_9 ∧ v529 = .int .i64 x529_9 ∧ Aside0 (laws_FnOrdersReach.l2 kq t520 x70_9 t517 (t517.length : Int) x529_9 = some r) ∧ Aside0 (kq ≤ kj194) ∧ Aside0 (Kd.R (Kd.int .i64) 3 w' w.heap.size (fun _ => True) (.slice Ao81 t517.length co81) t517) ∧ Aside0 (Below w.heap.size w w'))
                       case atStart => exact ⟨(t516), (0), (rs), (rs), H', ⟨Nat.le_refl _⟩, ⟨pr HO_53⟩, ⟨bw⟩⟩
                       case round =>
                        clear H'
                        repeat (first|clear c1|clear c2|clear p2|clear c3|clear c4|clear c5|clear c6|clear p6|clear c7|clear c8|clear c9|clear c10|clear c11|clear c12|clear c13|clear c14|clear c15|clear c16|clear c16b0|clear c16b1|clear c16b2|clear c17|clear c18|clear c19|clear c19b0|clear c19b1|clear c19b2|clear c20|clear c20b0|clear c20b1|clear c20b2|clear c21|clear c22|clear c23|clear c24|clear c25|clear c26|clear c27|clear c28|clear c29|clear c30|clear c31|clear c32|clear c32b0|clear c32b1|clear c34|clear c35|clear c37|clear c43|clear c44|clear c44b0|clear c44b1|clear c45|clear p64|clear c83|clear c83b0|clear c83b1|clear c83b2|clear c85|clear c86|clear c86b0|clear c86b1|clear c86b2|clear c87|clear c87b0|clear c87b1|clear c87b2|clear c88|clear c89|clear c89b0|clear c89b1|clear c89b2|clear c90|clear c90b0|clear c90b1|clear c90b2|clear c92|clear c93|clear c93b0|clear c93b1|clear c93b2|clear c94|clear c94b0|clear c94b1|clear c95|clear c95b0|clear c95b1|clear c95b2|clear c96|clear c96b0|clear c96b1|clear c97|clear c97b0|clear c97b1|clear c97b2|clear c98|clear c98b0|clear c98b1|clear c99|clear c99b0|clear c99b1|clear c99b2|clear c100|clear c100b0|clear c100b1|clear c101|clear c110|clear c110b0|clear c110b1|clear c110b2|clear c111|clear c111b0|clear c111b1|clear c111b2|clear c113|clear c114|clear c114b0|clear c114b1|clear c114b2|clear c115|clear c115b0|clear c115b1|clear c116|clear c116b0|clear c116b1|clear c116b2|clear c117|clear c117b0|clear c117b1|clear c118|clear c118b0|clear c118b1|clear c118b2|clear c119|clear c119b0|clear c119b1|clear c120|clear c120b0|clear c120b1|clear c120b2|clear c121|clear c121b0|clear c121b1|clear c122|clear c131|clear c133|clear c135|clear c136|clear c136b0|clear c136b1|clear c138|clear c139|clear c139b0|clear c141|clear c146|clear c146b0|clear c147|clear c147b0|clear c147b1|clear c148|clear c148b0|clear c148b1|clear c151|clear c151b0|clear c151b1|clear c151b2|clear c152|clear c159|clear c160|clear c160b0|clear c160b1|clear c161|clear c161b0|clear c161b1|clear c162|clear c162b0|clear c162b1|clear c162b2|clear c164|clear c173|clear c174|clear c174b0|clear c174b1|clear c174b2|clear c175|clear c177|clear c177b0|clear c177b1|clear c179|clear c179b0|clear c179b1|clear c180|clear c180b0|clear c180b1|clear c182|clear c182b0|clear c182b1|clear c184|clear c185|clear c185b0|clear c186|clear c186b0|clear c186b1|clear c186b2|clear c188|clear c189|clear c189b0|clear c189b1|clear c190|clear c190b0|clear c190b1|clear c192|clear c196|clear c198|clear c198b0|clear c198b1|clear c200|clear c201)
                        obtain ⟨x70_9, x529_9, rfl, rfl, HA, HK9, HO_527, HB⟩ := hrel
                        cases gk with
                        | zero => exact absurd HA.out (by simp [laws_FnOrdersReach.l2])
                        | succ k9 =>
                         have H := HA.out
                         clear HA
                         simp only [laws_FnOrdersReach.l2] at H
                         by_cases c202 : x529_9 < (t517.length : Int)
                         ·rw [if_pos c202] at H
                          have c202b0 : decide (x529_9 < (t517.length : Int)) = true := decide_eq_true c202
                          clear c202
                          by_cases c203 : 0 ≤ x529_9
                          ·rw [if_pos c203] at H
                           have c203b0 : decide (0 ≤ x529_9) = true := decide_eq_true c203
                           clear c203
                           by_cases c204 : x529_9 < (t517.length : Int)
                           ·rw [if_pos c204] at H
                            have c204b0 : decide (x529_9 < (t517.length : Int)) = true := decide_eq_true c204
                            clear c204
                            replace H := Option.bind_eq_some_iff.mp H
                            obtain ⟨⟨t547, t548⟩, A2050, H⟩ := H
                            (try dsimp only at H)
                            have A205 := Aside0.mk A2050
                            clear A2050
                            by_cases c206 : t548 = true
                            ·subst c206
                             rw [if_pos rfl] at H
                             have H' := Aside0.mk H
                             clear H
                             have p546 : 0 ≤ (x529_9 : Int) := of_decide_eq_true (by first | (with_reducible assumption) | assumption)
                             have q546 : x529_9 < (t517.length : Int) := of_decide_eq_true (by first | (with_reducible assumption) | assumption)
                             obtain ⟨ad546, e546, hx546_0⟩ := Kd.at_int (Kd.R_reads' HO_527.out).2.2 x529_9 p546 q546
                             cases e546
                             replace p546 := eq_true p546
                             replace q546 := eq_true q546
                             go_wp2_with (first | ((with_reducible refine gate_callee (f := 33) rfl ?_); refine gl (some 536) Tryz.func33 #[.string x70_9, .int .i64 (rd t517 x529_9)] ?_; (with_reducible refine (impl_TurnAround.calls x70_9 (rd t517 x529_9) t547 true _ ?side1 A205.out).mono ?_); (case side1 => exact Dr.mm HMM); rintro e w207 ⟨rfl, hb⟩; refine ⟨_, rfl, ?_⟩; replace HO_527 := Aside0.mk (Kd.R_below (pr HO_527) hb); replace HB := bs hb; (try clear hb)))
                             go_roundg k9
                             case measure => have := HJ9.out; have := HJ26.out; have := HJ41.out; have := HJ64.out; have := HJ131.out; have := HJ171.out; have := HJ182.out; have := HJ194.out; have := HK9.out; omega
                             case rel => exact ⟨(t547), (wrap64 (x529_9 + 1)), (rs), (rs), H', ⟨by have := HJ9.out; have := HJ26.out; have := HJ41.out; have := HJ64.out; have := HJ131.out; have := HJ171.out; have := HJ182.out; have := HJ194.out; have := HK9.out; omega⟩, ⟨pr HO_527⟩, ⟨bw⟩⟩
                            ·replace c206 := Bool.eq_false_iff.mpr c206
                             subst c206
                             rw [if_neg (show ¬ (false = true) by decide)] at H
                             exact absurd (Option.some.inj H) (by rw [HRT.out]; decide)
                           ·rw [if_neg c204] at H
                            exact absurd H (by simp)
                          ·rw [if_neg c203] at H
                           exact absurd H (by simp)
                         ·rw [if_neg c202] at H
                          have c202b0 : decide (x529_9 < (t517.length : Int)) = false := decide_eq_false c202
                          clear c202
                          obtain rfl := Option.some.inj H
                          go_wp2
                          go_ret
                          exact ⟨rs, bw⟩
                      ·replace c201 := Bool.eq_false_iff.mpr c201
                       subst c201
                       rw [if_neg (show ¬ (false = true) by decide)] at H
                       obtain rfl := Option.some.inj H
                       go_wp2
                       go_ret
                       exact ⟨rs, bw⟩

end Go.Proofs.YtnkklkpbchffkaaGreatDoor.PFnOrdersReach
