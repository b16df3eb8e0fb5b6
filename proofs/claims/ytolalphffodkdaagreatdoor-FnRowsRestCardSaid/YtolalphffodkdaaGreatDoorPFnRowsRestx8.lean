-- Laid by xprint, a program of this session that runs over the kit's print.
import Derived.Test.YtolalphffodkdaaGreatDoorPFnRowsRestx0
import Derived.Test.YtolalphffodkdaaGreatDoorPFnRowsRestx1
import Derived.Test.YtolalphffodkdaaGreatDoorPFnRowsRestx2
import Derived.Test.YtolalphffodkdaaGreatDoorPFnRowsRestx3
import Derived.Test.YtolalphffodkdaaGreatDoorPFnRowsRestx4
import Derived.Test.YtolalphffodkdaaGreatDoorPFnRowsRestx5
import Derived.Test.YtolalphffodkdaaGreatDoorPFnRowsRestx6
import Derived.Test.YtolalphffodkdaaGreatDoorPFnRowsRestx7
namespace Go.Proofs.YtolalphffodkdaaGreatDoor.PFnRowsRest
open Go.RowKit Go.Proofs.YtolalphffodkdaaGreatDoorW.PrintWords Go.Proofs.YtolalphffodkdaaGreatDoorW.PrintLast Go.Proofs.YtolalphffodkdaaGreatDoorW.PrintMore Go.Proofs.YtolalphffodkdaaGreatDoor.Sq
attribute [local go_sem] max2_int min2_int max_two min_two max_three min_three max_four min_four   -- for this text's walks alone
set_option linter.unusedVariables false
set_option linter.unusedSimpArgs false

/-! ### laws_FnRowsRest: function 3 -/
mutual
def laws_FnRowsRest.j6 : Nat → List Int → Option (Bool)
  | 0, _ => none
  | k + 1, x1 => (spec_DrawRowAfter.f k x1).bind fun bt363 => ((impl_RowAfter.f k bt363.1 bt363.2).bind fun bt365 => ((spec_RowAfter.f k bt363.1 bt363.2).bind fun bt367 => ((spec_DrawRowOfNumber.f x1).bind fun bt369 => ((impl_RowOfNumber.f k bt369.1 bt369.2).bind fun bt371 => ((spec_RowOfNumber.f k bt369.1 bt369.2).bind fun bt373 => ((spec_DrawNumberOfRow.f k x1).bind fun t375 => ((impl_NumberOfRow.f k t375).bind fun bt376 => ((spec_NumberOfRow.f k t375).bind fun bt378 => (if (bt365.2 != bt367.2) = true then (some false) else (if bt365.1.toList = bt367.1.toList then (if (bt371.2 != bt373.2) = true then (some false) else (if bt371.1.toList = bt373.1.toList then (if (bt376.2 != bt378.2) = true then (some false) else (if bt376.1 = bt378.1 then (if bt365.2 = true then (laws_FnRowsRest.j7 k bt363.1 bt363.2 bt365.1 bt369.1 bt369.2 bt371.1 bt371.2 (decide (bt363.2 ≤ 30))) else (laws_FnRowsRest.j7 k bt363.1 bt363.2 bt365.1 bt369.1 bt369.2 bt371.1 bt371.2 false)) else (some false))) else (some false))) else (some false)))))))))))
def laws_FnRowsRest.j7 : Nat → ByteArray → Int → ByteArray → Int → Int → ByteArray → Bool → Bool → Option (Bool)
  | 0, _, _, _, _, _, _, _, _ => none
  | k + 1, x60, x61, x62, x66, x67, x68, x69, x638 => if x638 = true then (laws_FnRowsRest.l4 k x61 x62 x66 x67 x68 x69 x60 0) else (if x69 = true then ((impl_NumberOfRow.f k x68).bind fun bt384 => (if bt384.2 = true then (if bt384.1 = x67 then (some ((x68.size : Int) == x66)) else (some false)) else (some false))) else (some true))
def laws_FnRowsRest.l4 : Nat → Int → ByteArray → Int → Int → ByteArray → Bool → ByteArray → Int → Option (Bool)
  | 0, _, _, _, _, _, _, _, _ => none
  | k + 1, x61, x62, x66, x67, x68, x69, x77, x78 => if x78 < x61 then ((impl_TickRow.f x77).bind fun bt380 => (if bt380.2 = true then (laws_FnRowsRest.l4 k x61 x62 x66 x67 x68 x69 bt380.1 (wrap64 (x78 + 1))) else (some false))) else (if x77.toList = x62.toList then (if x69 = true then ((impl_NumberOfRow.f k x68).bind fun bt382 => (if bt382.2 = true then (if bt382.1 = x67 then (some ((x68.size : Int) == x66)) else (some false)) else (some false))) else (some true)) else (some false))
def laws_FnRowsRest.l0 : Nat → List Int → ByteArray → Int → ByteArray → Int → List Int → List Int → ByteArray → Bool → ByteArray → ByteArray → Int → Int → Int → ByteArray → Option (Bool)
  | 0, _, _, _, _, _, _, _, _, _, _, _, _, _, _, _ => none
  | k + 1, x1, x5, x6, x10, x14, x18, x22, x26, x30, x34, x38, x42, x43, x345000, x345001 => if x345000 < (x345001.size : Int) then (if 0 ≤ x345000 then (if bt x345001 x345000 < 128 then (if x345000 < (x5.size : Int) then (if (bt x5 x345000) = 62 then (laws_FnRowsRest.l0 k x1 x5 x6 x10 x14 x18 x22 x26 x30 x34 x38 x42 (wrap64 (x43 + 1)) (x345000 + 1) x345001) else (laws_FnRowsRest.l0 k x1 x5 x6 x10 x14 x18 x22 x26 x30 x34 x38 (wrap64 (x42 + x43)) x43 (x345000 + 1) x345001)) else (none)) else (none)) else (none)) else (laws_FnRowsRest.l1 k x1 x5 x6 x10 x14 x18 x22 x26 x30 x34 x38 x42 x43 (⟨#[]⟩ : ByteArray) 0 x5)
def laws_FnRowsRest.l1 : Nat → List Int → ByteArray → Int → ByteArray → Int → List Int → List Int → ByteArray → Bool → ByteArray → ByteArray → Int → Int → ByteArray → Int → ByteArray → Option (Bool)
  | 0, _, _, _, _, _, _, _, _, _, _, _, _, _, _, _, _ => none
  | k + 1, x1, x5, x6, x10, x14, x18, x22, x26, x30, x34, x38, x42, x43, x45, x346000, x346001 => if x346000 < (x346001.size : Int) then (if 0 ≤ x346000 then (if bt x346001 x346000 < 128 then (if x346000 < (wrap64 ((x5.size : Int) - x43)) then (if x45.size + 1 ≤ 9223372036854775807 then (laws_FnRowsRest.l1 k x1 x5 x6 x10 x14 x18 x22 x26 x30 x34 x38 x42 x43 (x45 ++ (⟨#[60]⟩ : ByteArray)) (x346000 + 1) x346001) else (none)) else (if x45.size + 1 ≤ 9223372036854775807 then (laws_FnRowsRest.l1 k x1 x5 x6 x10 x14 x18 x22 x26 x30 x34 x38 x42 x43 (x45 ++ (⟨#[62]⟩ : ByteArray)) (x346000 + 1) x346001) else (none))) else (none)) else (none)) else (if x10.toList = x45.toList then (if x14 = x42 then ((laws_mSum.f k x18).bind fun t346 => (if t346 = (wrap64 (2 * x14)) then (if ((x6 == 0) != x30) = true then (some false) else (if (x30 != ((x22.length : Int) == 0)) = true then (some false) else (if (x30 != (x5.toList == x10.toList)) = true then (some false) else (if x6 > (wrap64 ((x5.size : Int) - 1)) then (if (x5.size : Int) > 1 then (some false) else (if x6 > x14 then (some false) else ((laws_mRises.f k x22).bind fun t347 => (laws_FnRowsRest.j2 k x1 x5 x6 x22 x26 x34 x38 (!t347))))) else (if x6 > x14 then (some false) else ((laws_mRises.f k x22).bind fun t348 => (laws_FnRowsRest.j2 k x1 x5 x6 x22 x26 x34 x38 (!t348)))))))) else (some false))) else (some false)) else (some false))
def laws_FnRowsRest.j2 : Nat → List Int → ByteArray → Int → List Int → ByteArray → ByteArray → ByteArray → Bool → Option (Bool)
  | 0, _, _, _, _, _, _, _, _ => none
  | k + 1, x1, x5, x6, x22, x26, x34, x38, x407 => if x407 = true then (some false) else (laws_FnRowsRest.l2 k x1 x5 x6 x22 x26 x34 x38 x22 (x22.length : Int) 0)
def laws_FnRowsRest.l2 : Nat → List Int → ByteArray → Int → List Int → ByteArray → ByteArray → ByteArray → List Int → Int → Int → Option (Bool)
  | 0, _, _, _, _, _, _, _, _, _, _ => none
  | k + 1, x1, x5, x6, x22, x26, x34, x38, x408, x409, x410 => if x410 < x409 then (if 0 ≤ x410 then (if x410 < (x408.length : Int) then (if 0 ≤ (rd x408 x410) then (if (rd x408 x410) < (x5.size : Int) then (if (bt x5 (rd x408 x410)) = 62 then (if 0 ≤ (wrap64 ((rd x408 x410) + 1)) then (if (wrap64 ((rd x408 x410) + 1)) < (x5.size : Int) then (if (bt x5 (wrap64 ((rd x408 x410) + 1))) = 60 then (if (rd x408 x410) < (x26.size : Int) then (if (bt x26 (rd x408 x410)) = 60 then (if (wrap64 ((rd x408 x410) + 1)) < (x26.size : Int) then (if (bt x26 (wrap64 ((rd x408 x410) + 1))) = 62 then (laws_FnRowsRest.l2 k x1 x5 x6 x22 x26 x34 x38 x408 x409 (wrap64 (x410 + 1))) else (some false)) else (none)) else (some false)) else (none)) else (some false)) else (none)) else (none)) else (some false)) else (none)) else (none)) else (none)) else (none)) else (laws_FnRowsRest.l3 k x1 x5 x6 x22 x26 x34 x38 0 x5)
def laws_FnRowsRest.l3 : Nat → List Int → ByteArray → Int → List Int → ByteArray → ByteArray → ByteArray → Int → ByteArray → Option (Bool)
  | 0, _, _, _, _, _, _, _, _, _ => none
  | k + 1, x1, x5, x6, x22, x26, x34, x38, x351000, x351001 => if x351000 < (x351001.size : Int) then (if 0 ≤ x351000 then (if bt x351001 x351000 < 128 then (if x351000 < (x26.size : Int) then (if x351000 < (x5.size : Int) then ((laws_mHas.f k x22 x351000).bind fun t351 => (if t351 = true then (if (((bt x26 x351000) != (bt x5 x351000)) != true) = true then (some false) else (if x351000 < (x38.size : Int) then (if (bt x38 x351000) = (bt x5 x351000) then (some false) else (if x351000 < (x34.size : Int) then (if 0 ≤ (wrap64 ((wrap64 ((x5.size : Int) - 1)) - x351000)) then (if (wrap64 ((wrap64 ((x5.size : Int) - 1)) - x351000)) < (x38.size : Int) then (if (bt x34 x351000) = (bt x38 (wrap64 ((wrap64 ((x5.size : Int) - 1)) - x351000))) then (laws_FnRowsRest.l3 k x1 x5 x6 x22 x26 x34 x38 (x351000 + 1) x351001) else (some false)) else (none)) else (none)) else (none))) else (none))) else ((laws_mHas.f k x22 (wrap64 (x351000 - 1))).bind fun t352 => (if (((bt x26 x351000) != (bt x5 x351000)) != t352) = true then (some false) else (if x351000 < (x38.size : Int) then (if (bt x38 x351000) = (bt x5 x351000) then (some false) else (if x351000 < (x34.size : Int) then (if 0 ≤ (wrap64 ((wrap64 ((x5.size : Int) - 1)) - x351000)) then (if (wrap64 ((wrap64 ((x5.size : Int) - 1)) - x351000)) < (x38.size : Int) then (if (bt x34 x351000) = (bt x38 (wrap64 ((wrap64 ((x5.size : Int) - 1)) - x351000))) then (laws_FnRowsRest.l3 k x1 x5 x6 x22 x26 x34 x38 (x351000 + 1) x351001) else (some false)) else (none)) else (none)) else (none))) else (none)))))) else (none)) else (none)) else (none)) else (none)) else ((impl_TicksToRest.f k x34).bind fun bt353 => ((impl_MirrorRow.f x34).bind fun bt355 => ((impl_TicksToRest.f k x26).bind fun bt357 => (if bt353.2 = true then (if bt353.1 = x6 then (if bt355.2 = true then (if bt355.1.toList = x5.toList then (if bt357.2 = true then (if x6 > 0 then (if bt357.1 = (wrap64 (x6 - 1)) then (if x6 = 0 then (laws_FnRowsRest.j5 k x1 x5 (x26.toList != x5.toList)) else (laws_FnRowsRest.j5 k x1 x5 false)) else (some false)) else (if x6 = 0 then (laws_FnRowsRest.j5 k x1 x5 (x26.toList != x5.toList)) else (laws_FnRowsRest.j5 k x1 x5 false))) else (some false)) else (some false)) else (some false)) else (some false)) else (some false)))))
def laws_FnRowsRest.j5 : Nat → List Int → ByteArray → Bool → Option (Bool)
  | 0, _, _, _ => none
  | k + 1, x1, x5, x536 => if x536 = true then (some false) else ((impl_NumberOfRow.f k x5).bind fun bt359 => ((impl_RowOfNumber.f k (x5.size : Int) bt359.1).bind fun bt361 => (if bt359.2 = true then (if bt361.2 = true then (if bt361.1.toList = x5.toList then (laws_FnRowsRest.j6 k x1) else (some false)) else (some false)) else (some false))))
end
def laws_FnRowsRest.f (k : Nat) (l0 : List Int) (l1 : List Int) : Option (Bool) := (laws_big.f l0 l1).bind fun t293 => (if t293 = true then (some true) else ((spec_DrawTicksToRest.f k l0).bind fun t294 => ((impl_TicksToRest.f k t294).bind fun bt295 => ((spec_TicksToRest.f k t294).bind fun bt297 => ((impl_RestOf.f k t294).bind fun bt299 => ((spec_RestOf.f k t294).bind fun bt301 => ((impl_CountTurns.f k t294).bind fun bt303 => ((spec_CountTurns.f k t294).bind fun bt305 => ((impl_TurnsOfEach.f k t294).bind fun bt307 => ((spec_TurnsOfEach.f k t294).bind fun bt311 => ((impl_FacingPairs.f k t294).bind fun bt315 => ((spec_FacingPairs.f k t294).bind fun bt319 => ((impl_TickRow.f t294).bind fun bt323 => ((spec_TickRow.f k t294).bind fun bt325 => ((impl_IsAtRest.f t294).bind fun bt327 => ((spec_IsAtRest.f k t294).bind fun bt329 => ((impl_MirrorRow.f t294).bind fun bt331 => ((spec_MirrorRow.f k t294).bind fun bt333 => ((impl_TurnedRow.f t294).bind fun bt335 => ((spec_TurnedRow.f k t294).bind fun bt337 => (if (bt295.2 != bt297.2) = true then (some false) else (if bt295.1 = bt297.1 then (if (bt299.2 != bt301.2) = true then (some false) else (if bt299.1.toList = bt301.1.toList then (if (bt303.2 != bt305.2) = true then (some false) else (if bt303.1 = bt305.1 then (if (bt307.2 != bt311.2) = true then (some false) else ((laws_mSame.f k bt307.1 bt311.1).bind fun t339 => (if t339 = true then (if (bt315.2 != bt319.2) = true then (some false) else ((laws_mSame.f k bt315.1 bt319.1).bind fun t340 => (if t340 = true then (if (bt323.2 != bt325.2) = true then (some false) else (if bt323.1.toList = bt325.1.toList then (if (bt327.2 != bt329.2) = true then (some false) else (if (bt327.1 != bt329.1) = true then (some false) else (if (bt331.2 != bt333.2) = true then (some false) else (if bt331.1.toList = bt333.1.toList then (if (bt335.2 != bt337.2) = true then (some false) else (if bt335.1.toList = bt337.1.toList then ((impl_IsRow.f t294).bind fun t341 => (if (bt295.2 != t341) = true then (some false) else ((impl_IsRow.f t294).bind fun t342 => ((spec_IsRow.f k t294).bind fun t343 => (if (t342 != t343) = true then (some false) else (if (bt299.2 != bt295.2) = true then (some false) else (if (bt303.2 != bt295.2) = true then (some false) else (if (bt307.2 != bt295.2) = true then (some false) else (if (bt315.2 != bt295.2) = true then (some false) else (if (bt323.2 != bt295.2) = true then (some false) else (if (bt327.2 != bt295.2) = true then (some false) else (if (bt331.2 != bt295.2) = true then (some false) else (if (bt335.2 != bt295.2) = true then (some false) else (if bt295.2 = true then (laws_FnRowsRest.l0 k l1 t294 bt295.1 bt299.1 bt303.1 bt307.1 bt315.1 bt323.1 bt327.1 bt331.1 bt335.1 0 0 0 t294) else (laws_FnRowsRest.j6 k l1))))))))))))))) else (some false))) else (some false))))) else (some false))) else (some false)))) else (some false)))) else (some false))) else (some false))) else (some false)))))))))))))))))))))))
theorem laws_FnRowsRest.mono_l : ∀ k, (∀ y0, LeO (laws_FnRowsRest.j6 k y0) (laws_FnRowsRest.j6 (k + 1) y0)) ∧ (∀ y0 y1 y2 y3 y4 y5 y6 y7, LeO (laws_FnRowsRest.j7 k y0 y1 y2 y3 y4 y5 y6 y7) (laws_FnRowsRest.j7 (k + 1) y0 y1 y2 y3 y4 y5 y6 y7)) ∧ (∀ y0 y1 y2 y3 y4 y5 y6 y7, LeO (laws_FnRowsRest.l4 k y0 y1 y2 y3 y4 y5 y6 y7) (laws_FnRowsRest.l4 (k + 1) y0 y1 y2 y3 y4 y5 y6 y7)) ∧ (∀ y0 y1 y2 y3 y4 y5 y6 y7 y8 y9 y10 y11 y12 y13 y14, LeO (laws_FnRowsRest.l0 k y0 y1 y2 y3 y4 y5 y6 y7 y8 y9 y10 y11 y12 y13 y14) (laws_FnRowsRest.l0 (k + 1) y0 y1 y2 y3 y4 y5 y6 y7 y8 y9 y10 y11 y12 y13 y14)) ∧ (∀ y0 y1 y2 y3 y4 y5 y6 y7 y8 y9 y10 y11 y12 y13 y14 y15, LeO (laws_FnRowsRest.l1 k y0 y1 y2 y3 y4 y5 y6 y7 y8 y9 y10 y11 y12 y13 y14 y15) (laws_FnRowsRest.l1 (k + 1) y0 y1 y2 y3 y4 y5 y6 y7 y8 y9 y10 y11 y12 y13 y14 y15)) ∧ (∀ y0 y1 y2 y3 y4 y5 y6 y7, LeO (laws_FnRowsRest.j2 k y0 y1 y2 y3 y4 y5 y6 y7) (laws_FnRowsRest.j2 (k + 1) y0 y1 y2 y3 y4 y5 y6 y7)) ∧ (∀ y0 y1 y2 y3 y4 y5 y6 y7 y8 y9, LeO (laws_FnRowsRest.l2 k y0 y1 y2 y3 y4 y5 y6 y7 y8 y9) (laws_FnRowsRest.l2 (k + 1) y0 y1 y2 y3 y4 y5 y6 y7 y8 y9)) ∧ (∀ y0 y1 y2 y3 y4 y5 y6 y7 y8, LeO (laws_FnRowsRest.l3 k y0 y1 y2 y3 y4 y5 y6 y7 y8) (laws_FnRowsRest.l3 (k + 1) y0 y1 y2 y3 y4 y5 y6 y7 y8)) ∧ (∀ y0 y1 y2, LeO (laws_FnRowsRest.j5 k y0 y1 y2) (laws_FnRowsRest.j5 (k + 1) y0 y1 y2))
  | 0 => ⟨fun _ r h => by simp [laws_FnRowsRest.j6] at h, fun _ _ _ _ _ _ _ _ r h => by simp [laws_FnRowsRest.j7] at h, fun _ _ _ _ _ _ _ _ r h => by simp [laws_FnRowsRest.l4] at h, fun _ _ _ _ _ _ _ _ _ _ _ _ _ _ _ r h => by simp [laws_FnRowsRest.l0] at h, fun _ _ _ _ _ _ _ _ _ _ _ _ _ _ _ _ r h => by simp [laws_FnRowsRest.l1] at h, fun _ _ _ _ _ _ _ _ r h => by simp [laws_FnRowsRest.j2] at h, fun _ _ _ _ _ _ _ _ _ _ r h => by simp [laws_FnRowsRest.l2] at h, fun _ _ _ _ _ _ _ _ _ r h => by simp [laws_FnRowsRest.l3] at h, fun _ _ _ r h => by simp [laws_FnRowsRest.j5] at h⟩
  | k + 1 => by
    obtain ⟨ih0, ih1, ih2, ih3, ih4, ih5, ih6, ih7, ih8⟩ := laws_FnRowsRest.mono_l k
    refine ⟨?_, ?_, ?_, ?_, ?_, ?_, ?_, ?_, ?_⟩
    · intro y0
      unfold laws_FnRowsRest.j6
      repeat' first
      | (with_reducible exact ih0 _)
      | (with_reducible exact ih1 _ _ _ _ _ _ _ _)
      | (with_reducible exact ih2 _ _ _ _ _ _ _ _)
      | (with_reducible exact ih3 _ _ _ _ _ _ _ _ _ _ _ _ _ _ _)
      | (with_reducible exact ih4 _ _ _ _ _ _ _ _ _ _ _ _ _ _ _ _)
      | (with_reducible exact ih5 _ _ _ _ _ _ _ _)
      | (with_reducible exact ih6 _ _ _ _ _ _ _ _ _ _)
      | (with_reducible exact ih7 _ _ _ _ _ _ _ _ _)
      | (with_reducible exact ih8 _ _ _)
      | (with_reducible exact impl_CountTurns.mono _ _)
      | (with_reducible exact impl_FacingPairs.mono _ _)
      | (with_reducible exact impl_NumberOfRow.mono _ _)
      | (with_reducible exact impl_RestOf.mono _ _)
      | (with_reducible exact impl_RowAfter.mono _ _ _)
      | (with_reducible exact impl_RowOfNumber.mono _ _ _)
      | (with_reducible exact impl_TicksToRest.mono _ _)
      | (with_reducible exact impl_TurnsOfEach.mono _ _)
      | (with_reducible exact laws_mHas.mono _ _ _)
      | (with_reducible exact laws_mRises.mono _ _)
      | (with_reducible exact laws_mSame.mono _ _ _)
      | (with_reducible exact laws_mSum.mono _ _)
      | (with_reducible exact spec_CountTurns.mono _ _)
      | (with_reducible exact spec_DrawNumberOfRow.mono _ _)
      | (with_reducible exact spec_DrawRowAfter.mono _ _)
      | (with_reducible exact spec_DrawTicksToRest.mono _ _)
      | (with_reducible exact spec_FacingPairs.mono _ _)
      | (with_reducible exact spec_IsAtRest.mono _ _)
      | (with_reducible exact spec_IsRow.mono _ _)
      | (with_reducible exact spec_MirrorRow.mono _ _)
      | (with_reducible exact spec_NumberOfRow.mono _ _)
      | (with_reducible exact spec_RestOf.mono _ _)
      | (with_reducible exact spec_RowAfter.mono _ _ _)
      | (with_reducible exact spec_RowOfNumber.mono _ _ _)
      | (with_reducible exact spec_TickRow.mono _ _)
      | (with_reducible exact spec_TicksToRest.mono _ _)
      | (with_reducible exact spec_TurnedRow.mono _ _)
      | (with_reducible exact spec_TurnsOfEach.mono _ _)
      | (with_reducible exact LeO.refl _)
      | (with_reducible exact LeO.none _)
      | (with_reducible refine LeO.ite ?_ ?_)
      | (with_reducible refine LeO.bind ?_ (fun _ => ?_))
      | exact ih0 _
      | exact ih1 _ _ _ _ _ _ _ _
      | exact ih2 _ _ _ _ _ _ _ _
      | exact ih3 _ _ _ _ _ _ _ _ _ _ _ _ _ _ _
      | exact ih4 _ _ _ _ _ _ _ _ _ _ _ _ _ _ _ _
      | exact ih5 _ _ _ _ _ _ _ _
      | exact ih6 _ _ _ _ _ _ _ _ _ _
      | exact ih7 _ _ _ _ _ _ _ _ _
      | exact ih8 _ _ _
      | exact impl_CountTurns.mono _ _
      | exact impl_FacingPairs.mono _ _
      | exact impl_NumberOfRow.mono _ _
      | exact impl_RestOf.mono _ _
      | exact impl_RowAfter.mono _ _ _
      | exact impl_RowOfNumber.mono _ _ _
      | exact impl_TicksToRest.mono _ _
      | exact impl_TurnsOfEach.mono _ _
      | exact laws_mHas.mono _ _ _
      | exact laws_mRises.mono _ _
      | exact laws_mSame.mono _ _ _
      | exact laws_mSum.mono _ _
      | exact spec_CountTurns.mono _ _
      | exact spec_DrawNumberOfRow.mono _ _
      | exact spec_DrawRowAfter.mono _ _
      | exact spec_DrawTicksToRest.mono _ _
      | exact spec_FacingPairs.mono _ _
      | exact spec_IsAtRest.mono _ _
      | exact spec_IsRow.mono _ _
      | exact spec_MirrorRow.mono _ _
      | exact spec_NumberOfRow.mono _ _
      | exact spec_RestOf.mono _ _
      | exact spec_RowAfter.mono _ _ _
      | exact spec_RowOfNumber.mono _ _ _
      | exact spec_TickRow.mono _ _
      | exact spec_TicksToRest.mono _ _
      | exact spec_TurnedRow.mono _ _
      | exact spec_TurnsOfEach.mono _ _
      | exact LeO.none _
      | refine LeO.ite ?_ ?_
      | refine LeO.bind ?_ (fun _ => ?_)
    · intro y0 y1 y2 y3 y4 y5 y6 y7
      unfold laws_FnRowsRest.j7
      repeat' first
      | (with_reducible exact ih0 _)
      | (with_reducible exact ih1 _ _ _ _ _ _ _ _)
      | (with_reducible exact ih2 _ _ _ _ _ _ _ _)
      | (with_reducible exact ih3 _ _ _ _ _ _ _ _ _ _ _ _ _ _ _)
      | (with_reducible exact ih4 _ _ _ _ _ _ _ _ _ _ _ _ _ _ _ _)
      | (with_reducible exact ih5 _ _ _ _ _ _ _ _)
      | (with_reducible exact ih6 _ _ _ _ _ _ _ _ _ _)
      | (with_reducible exact ih7 _ _ _ _ _ _ _ _ _)
      | (with_reducible exact ih8 _ _ _)
      | (with_reducible exact impl_CountTurns.mono _ _)
      | (with_reducible exact impl_FacingPairs.mono _ _)
      | (with_reducible exact impl_NumberOfRow.mono _ _)
      | (with_reducible exact impl_RestOf.mono _ _)
      | (with_reducible exact impl_RowAfter.mono _ _ _)
      | (with_reducible exact impl_RowOfNumber.mono _ _ _)
      | (with_reducible exact impl_TicksToRest.mono _ _)
      | (with_reducible exact impl_TurnsOfEach.mono _ _)
      | (with_reducible exact laws_mHas.mono _ _ _)
      | (with_reducible exact laws_mRises.mono _ _)
      | (with_reducible exact laws_mSame.mono _ _ _)
      | (with_reducible exact laws_mSum.mono _ _)
      | (with_reducible exact spec_CountTurns.mono _ _)
      | (with_reducible exact spec_DrawNumberOfRow.mono _ _)
      | (with_reducible exact spec_DrawRowAfter.mono _ _)
      | (with_reducible exact spec_DrawTicksToRest.mono _ _)
      | (with_reducible exact spec_FacingPairs.mono _ _)
      | (with_reducible exact spec_IsAtRest.mono _ _)
      | (with_reducible exact spec_IsRow.mono _ _)
      | (with_reducible exact spec_MirrorRow.mono _ _)
      | (with_reducible exact spec_NumberOfRow.mono _ _)
      | (with_reducible exact spec_RestOf.mono _ _)
      | (with_reducible exact spec_RowAfter.mono _ _ _)
      | (with_reducible exact spec_RowOfNumber.mono _ _ _)
      | (with_reducible exact spec_TickRow.mono _ _)
      | (with_reducible exact spec_TicksToRest.mono _ _)
      | (with_reducible exact spec_TurnedRow.mono _ _)
      | (with_reducible exact spec_TurnsOfEach.mono _ _)
      | (with_reducible exact LeO.refl _)
      | (with_reducible exact LeO.none _)
      | (with_reducible refine LeO.ite ?_ ?_)
      | (with_reducible refine LeO.bind ?_ (fun _ => ?_))
      | exact ih0 _
      | exact ih1 _ _ _ _ _ _ _ _
      | exact ih2 _ _ _ _ _ _ _ _
      | exact ih3 _ _ _ _ _ _ _ _ _ _ _ _ _ _ _
      | exact ih4 _ _ _ _ _ _ _ _ _ _ _ _ _ _ _ _
      | exact ih5 _ _ _ _ _ _ _ _
      | exact ih6 _ _ _ _ _ _ _ _ _ _
      | exact ih7 _ _ _ _ _ _ _ _ _
      | exact ih8 _ _ _
      | exact impl_CountTurns.mono _ _
      | exact impl_FacingPairs.mono _ _
      | exact impl_NumberOfRow.mono _ _
      | exact impl_RestOf.mono _ _
      | exact impl_RowAfter.mono _ _ _
      | exact impl_RowOfNumber.mono _ _ _
      | exact impl_TicksToRest.mono _ _
      | exact impl_TurnsOfEach.mono _ _
      | exact laws_mHas.mono _ _ _
      | exact laws_mRises.mono _ _
      | exact laws_mSame.mono _ _ _
      | exact laws_mSum.mono _ _
      | exact spec_CountTurns.mono _ _
      | exact spec_DrawNumberOfRow.mono _ _
      | exact spec_DrawRowAfter.mono _ _
      | exact spec_DrawTicksToRest.mono _ _
      | exact spec_FacingPairs.mono _ _
      | exact spec_IsAtRest.mono _ _
      | exact spec_IsRow.mono _ _
      | exact spec_MirrorRow.mono _ _
      | exact spec_NumberOfRow.mono _ _
      | exact spec_RestOf.mono _ _
      | exact spec_RowAfter.mono _ _ _
      | exact spec_RowOfNumber.mono _ _ _
      | exact spec_TickRow.mono _ _
      | exact spec_TicksToRest.mono _ _
      | exact spec_TurnedRow.mono _ _
      | exact spec_TurnsOfEach.mono _ _
      | exact LeO.none _
      | refine LeO.ite ?_ ?_
      | refine LeO.bind ?_ (fun _ => ?_)
    · intro y0 y1 y2 y3 y4 y5 y6 y7
      unfold laws_FnRowsRest.l4
      repeat' first
      | (with_reducible exact ih0 _)
      | (with_reducible exact ih1 _ _ _ _ _ _ _ _)
      | (with_reducible exact ih2 _ _ _ _ _ _ _ _)
      | (with_reducible exact ih3 _ _ _ _ _ _ _ _ _ _ _ _ _ _ _)
      | (with_reducible exact ih4 _ _ _ _ _ _ _ _ _ _ _ _ _ _ _ _)
      | (with_reducible exact ih5 _ _ _ _ _ _ _ _)
      | (with_reducible exact ih6 _ _ _ _ _ _ _ _ _ _)
      | (with_reducible exact ih7 _ _ _ _ _ _ _ _ _)
      | (with_reducible exact ih8 _ _ _)
      | (with_reducible exact impl_CountTurns.mono _ _)
      | (with_reducible exact impl_FacingPairs.mono _ _)
      | (with_reducible exact impl_NumberOfRow.mono _ _)
      | (with_reducible exact impl_RestOf.mono _ _)
      | (with_reducible exact impl_RowAfter.mono _ _ _)
      | (with_reducible exact impl_RowOfNumber.mono _ _ _)
      | (with_reducible exact impl_TicksToRest.mono _ _)
      | (with_reducible exact impl_TurnsOfEach.mono _ _)
      | (with_reducible exact laws_mHas.mono _ _ _)
      | (with_reducible exact laws_mRises.mono _ _)
      | (with_reducible exact laws_mSame.mono _ _ _)
      | (with_reducible exact laws_mSum.mono _ _)
      | (with_reducible exact spec_CountTurns.mono _ _)
      | (with_reducible exact spec_DrawNumberOfRow.mono _ _)
      | (with_reducible exact spec_DrawRowAfter.mono _ _)
      | (with_reducible exact spec_DrawTicksToRest.mono _ _)
      | (with_reducible exact spec_FacingPairs.mono _ _)
      | (with_reducible exact spec_IsAtRest.mono _ _)
      | (with_reducible exact spec_IsRow.mono _ _)
      | (with_reducible exact spec_MirrorRow.mono _ _)
      | (with_reducible exact spec_NumberOfRow.mono _ _)
      | (with_reducible exact spec_RestOf.mono _ _)
      | (with_reducible exact spec_RowAfter.mono _ _ _)
      | (with_reducible exact spec_RowOfNumber.mono _ _ _)
      | (with_reducible exact spec_TickRow.mono _ _)
      | (with_reducible exact spec_TicksToRest.mono _ _)
      | (with_reducible exact spec_TurnedRow.mono _ _)
      | (with_reducible exact spec_TurnsOfEach.mono _ _)
      | (with_reducible exact LeO.refl _)
      | (with_reducible exact LeO.none _)
      | (with_reducible refine LeO.ite ?_ ?_)
      | (with_reducible refine LeO.bind ?_ (fun _ => ?_))
      | exact ih0 _
      | exact ih1 _ _ _ _ _ _ _ _
      | exact ih2 _ _ _ _ _ _ _ _
      | exact ih3 _ _ _ _ _ _ _ _ _ _ _ _ _ _ _
      | exact ih4 _ _ _ _ _ _ _ _ _ _ _ _ _ _ _ _
      | exact ih5 _ _ _ _ _ _ _ _
      | exact ih6 _ _ _ _ _ _ _ _ _ _
      | exact ih7 _ _ _ _ _ _ _ _ _
      | exact ih8 _ _ _
      | exact impl_CountTurns.mono _ _
      | exact impl_FacingPairs.mono _ _
      | exact impl_NumberOfRow.mono _ _
      | exact impl_RestOf.mono _ _
      | exact impl_RowAfter.mono _ _ _
      | exact impl_RowOfNumber.mono _ _ _
      | exact impl_TicksToRest.mono _ _
      | exact impl_TurnsOfEach.mono _ _
      | exact laws_mHas.mono _ _ _
      | exact laws_mRises.mono _ _
      | exact laws_mSame.mono _ _ _
      | exact laws_mSum.mono _ _
      | exact spec_CountTurns.mono _ _
      | exact spec_DrawNumberOfRow.mono _ _
      | exact spec_DrawRowAfter.mono _ _
      | exact spec_DrawTicksToRest.mono _ _
      | exact spec_FacingPairs.mono _ _
      | exact spec_IsAtRest.mono _ _
      | exact spec_IsRow.mono _ _
      | exact spec_MirrorRow.mono _ _
      | exact spec_NumberOfRow.mono _ _
      | exact spec_RestOf.mono _ _
      | exact spec_RowAfter.mono _ _ _
      | exact spec_RowOfNumber.mono _ _ _
      | exact spec_TickRow.mono _ _
      | exact spec_TicksToRest.mono _ _
      | exact spec_TurnedRow.mono _ _
      | exact spec_TurnsOfEach.mono _ _
      | exact LeO.none _
      | refine LeO.ite ?_ ?_
      | refine LeO.bind ?_ (fun _ => ?_)
    · intro y0 y1 y2 y3 y4 y5 y6 y7 y8 y9 y10 y11 y12 y13 y14
      unfold laws_FnRowsRest.l0
      repeat' first
      | (with_reducible exact ih0 _)
      | (with_reducible exact ih1 _ _ _ _ _ _ _ _)
      | (with_reducible exact ih2 _ _ _ _ _ _ _ _)
      | (with_reducible exact ih3 _ _ _ _ _ _ _ _ _ _ _ _ _ _ _)
      | (with_reducible exact ih4 _ _ _ _ _ _ _ _ _ _ _ _ _ _ _ _)
      | (with_reducible exact ih5 _ _ _ _ _ _ _ _)
      | (with_reducible exact ih6 _ _ _ _ _ _ _ _ _ _)
      | (with_reducible exact ih7 _ _ _ _ _ _ _ _ _)
      | (with_reducible exact ih8 _ _ _)
      | (with_reducible exact impl_CountTurns.mono _ _)
      | (with_reducible exact impl_FacingPairs.mono _ _)
      | (with_reducible exact impl_NumberOfRow.mono _ _)
      | (with_reducible exact impl_RestOf.mono _ _)
      | (with_reducible exact impl_RowAfter.mono _ _ _)
      | (with_reducible exact impl_RowOfNumber.mono _ _ _)
      | (with_reducible exact impl_TicksToRest.mono _ _)
      | (with_reducible exact impl_TurnsOfEach.mono _ _)
      | (with_reducible exact laws_mHas.mono _ _ _)
      | (with_reducible exact laws_mRises.mono _ _)
      | (with_reducible exact laws_mSame.mono _ _ _)
      | (with_reducible exact laws_mSum.mono _ _)
      | (with_reducible exact spec_CountTurns.mono _ _)
      | (with_reducible exact spec_DrawNumberOfRow.mono _ _)
      | (with_reducible exact spec_DrawRowAfter.mono _ _)
      | (with_reducible exact spec_DrawTicksToRest.mono _ _)
      | (with_reducible exact spec_FacingPairs.mono _ _)
      | (with_reducible exact spec_IsAtRest.mono _ _)
      | (with_reducible exact spec_IsRow.mono _ _)
      | (with_reducible exact spec_MirrorRow.mono _ _)
      | (with_reducible exact spec_NumberOfRow.mono _ _)
      | (with_reducible exact spec_RestOf.mono _ _)
      | (with_reducible exact spec_RowAfter.mono _ _ _)
      | (with_reducible exact spec_RowOfNumber.mono _ _ _)
      | (with_reducible exact spec_TickRow.mono _ _)
      | (with_reducible exact spec_TicksToRest.mono _ _)
      | (with_reducible exact spec_TurnedRow.mono _ _)
      | (with_reducible exact spec_TurnsOfEach.mono _ _)
      | (with_reducible exact LeO.refl _)
      | (with_reducible exact LeO.none _)
      | (with_reducible refine LeO.ite ?_ ?_)
      | (with_reducible refine LeO.bind ?_ (fun _ => ?_))
      | exact ih0 _
      | exact ih1 _ _ _ _ _ _ _ _
      | exact ih2 _ _ _ _ _ _ _ _
      | exact ih3 _ _ _ _ _ _ _ _ _ _ _ _ _ _ _
      | exact ih4 _ _ _ _ _ _ _ _ _ _ _ _ _ _ _ _
      | exact ih5 _ _ _ _ _ _ _ _
      | exact ih6 _ _ _ _ _ _ _ _ _ _
      | exact ih7 _ _ _ _ _ _ _ _ _
      | exact ih8 _ _ _
      | exact impl_CountTurns.mono _ _
      | exact impl_FacingPairs.mono _ _
      | exact impl_NumberOfRow.mono _ _
      | exact impl_RestOf.mono _ _
      | exact impl_RowAfter.mono _ _ _
      | exact impl_RowOfNumber.mono _ _ _
      | exact impl_TicksToRest.mono _ _
      | exact impl_TurnsOfEach.mono _ _
      | exact laws_mHas.mono _ _ _
      | exact laws_mRises.mono _ _
      | exact laws_mSame.mono _ _ _
      | exact laws_mSum.mono _ _
      | exact spec_CountTurns.mono _ _
      | exact spec_DrawNumberOfRow.mono _ _
      | exact spec_DrawRowAfter.mono _ _
      | exact spec_DrawTicksToRest.mono _ _
      | exact spec_FacingPairs.mono _ _
      | exact spec_IsAtRest.mono _ _
      | exact spec_IsRow.mono _ _
      | exact spec_MirrorRow.mono _ _
      | exact spec_NumberOfRow.mono _ _
      | exact spec_RestOf.mono _ _
      | exact spec_RowAfter.mono _ _ _
      | exact spec_RowOfNumber.mono _ _ _
      | exact spec_TickRow.mono _ _
      | exact spec_TicksToRest.mono _ _
      | exact spec_TurnedRow.mono _ _
      | exact spec_TurnsOfEach.mono _ _
      | exact LeO.none _
      | refine LeO.ite ?_ ?_
      | refine LeO.bind ?_ (fun _ => ?_)
    · intro y0 y1 y2 y3 y4 y5 y6 y7 y8 y9 y10 y11 y12 y13 y14 y15
      unfold laws_FnRowsRest.l1
      repeat' first
      | (with_reducible exact ih0 _)
      | (with_reducible exact ih1 _ _ _ _ _ _ _ _)
      | (with_reducible exact ih2 _ _ _ _ _ _ _ _)
      | (with_reducible exact ih3 _ _ _ _ _ _ _ _ _ _ _ _ _ _ _)
      | (with_reducible exact ih4 _ _ _ _ _ _ _ _ _ _ _ _ _ _ _ _)
      | (with_reducible exact ih5 _ _ _ _ _ _ _ _)
      | (with_reducible exact ih6 _ _ _ _ _ _ _ _ _ _)
      | (with_reducible exact ih7 _ _ _ _ _ _ _ _ _)
      | (with_reducible exact ih8 _ _ _)
      | (with_reducible exact impl_CountTurns.mono _ _)
      | (with_reducible exact impl_FacingPairs.mono _ _)
      | (with_reducible exact impl_NumberOfRow.mono _ _)
      | (with_reducible exact impl_RestOf.mono _ _)
      | (with_reducible exact impl_RowAfter.mono _ _ _)
      | (with_reducible exact impl_RowOfNumber.mono _ _ _)
      | (with_reducible exact impl_TicksToRest.mono _ _)
      | (with_reducible exact impl_TurnsOfEach.mono _ _)
      | (with_reducible exact laws_mHas.mono _ _ _)
      | (with_reducible exact laws_mRises.mono _ _)
      | (with_reducible exact laws_mSame.mono _ _ _)
      | (with_reducible exact laws_mSum.mono _ _)
      | (with_reducible exact spec_CountTurns.mono _ _)
      | (with_reducible exact spec_DrawNumberOfRow.mono _ _)
      | (with_reducible exact spec_DrawRowAfter.mono _ _)
      | (with_reducible exact spec_DrawTicksToRest.mono _ _)
      | (with_reducible exact spec_FacingPairs.mono _ _)
      | (with_reducible exact spec_IsAtRest.mono _ _)
      | (with_reducible exact spec_IsRow.mono _ _)
      | (with_reducible exact spec_MirrorRow.mono _ _)
      | (with_reducible exact spec_NumberOfRow.mono _ _)
      | (with_reducible exact spec_RestOf.mono _ _)
      | (with_reducible exact spec_RowAfter.mono _ _ _)
      | (with_reducible exact spec_RowOfNumber.mono _ _ _)
      | (with_reducible exact spec_TickRow.mono _ _)
      | (with_reducible exact spec_TicksToRest.mono _ _)
      | (with_reducible exact spec_TurnedRow.mono _ _)
      | (with_reducible exact spec_TurnsOfEach.mono _ _)
      | (with_reducible exact LeO.refl _)
      | (with_reducible exact LeO.none _)
      | (with_reducible refine LeO.ite ?_ ?_)
      | (with_reducible refine LeO.bind ?_ (fun _ => ?_))
      | exact ih0 _
      | exact ih1 _ _ _ _ _ _ _ _
      | exact ih2 _ _ _ _ _ _ _ _
      | exact ih3 _ _ _ _ _ _ _ _ _ _ _ _ _ _ _
      | exact ih4 _ _ _ _ _ _ _ _ _ _ _ _ _ _ _ _
      | exact ih5 _ _ _ _ _ _ _ _
      | exact ih6 _ _ _ _ _ _ _ _ _ _
      | exact ih7 _ _ _ _ _ _ _ _ _
      | exact ih8 _ _ _
      | exact impl_CountTurns.mono _ _
      | exact impl_FacingPairs.mono _ _
      | exact impl_NumberOfRow.mono _ _
      | exact impl_RestOf.mono _ _
      | exact impl_RowAfter.mono _ _ _
      | exact impl_RowOfNumber.mono _ _ _
      | exact impl_TicksToRest.mono _ _
      | exact impl_TurnsOfEach.mono _ _
      | exact laws_mHas.mono _ _ _
      | exact laws_mRises.mono _ _
      | exact laws_mSame.mono _ _ _
      | exact laws_mSum.mono _ _
      | exact spec_CountTurns.mono _ _
      | exact spec_DrawNumberOfRow.mono _ _
      | exact spec_DrawRowAfter.mono _ _
      | exact spec_DrawTicksToRest.mono _ _
      | exact spec_FacingPairs.mono _ _
      | exact spec_IsAtRest.mono _ _
      | exact spec_IsRow.mono _ _
      | exact spec_MirrorRow.mono _ _
      | exact spec_NumberOfRow.mono _ _
      | exact spec_RestOf.mono _ _
      | exact spec_RowAfter.mono _ _ _
      | exact spec_RowOfNumber.mono _ _ _
      | exact spec_TickRow.mono _ _
      | exact spec_TicksToRest.mono _ _
      | exact spec_TurnedRow.mono _ _
      | exact spec_TurnsOfEach.mono _ _
      | exact LeO.none _
      | refine LeO.ite ?_ ?_
      | refine LeO.bind ?_ (fun _ => ?_)
    · intro y0 y1 y2 y3 y4 y5 y6 y7
      unfold laws_FnRowsRest.j2
      repeat' first
      | (with_reducible exact ih0 _)
      | (with_reducible exact ih1 _ _ _ _ _ _ _ _)
      | (with_reducible exact ih2 _ _ _ _ _ _ _ _)
      | (with_reducible exact ih3 _ _ _ _ _ _ _ _ _ _ _ _ _ _ _)
      | (with_reducible exact ih4 _ _ _ _ _ _ _ _ _ _ _ _ _ _ _ _)
      | (with_reducible exact ih5 _ _ _ _ _ _ _ _)
      | (with_reducible exact ih6 _ _ _ _ _ _ _ _ _ _)
      | (with_reducible exact ih7 _ _ _ _ _ _ _ _ _)
      | (with_reducible exact ih8 _ _ _)
      | (with_reducible exact impl_CountTurns.mono _ _)
      | (with_reducible exact impl_FacingPairs.mono _ _)
      | (with_reducible exact impl_NumberOfRow.mono _ _)
      | (with_reducible exact impl_RestOf.mono _ _)
      | (with_reducible exact impl_RowAfter.mono _ _ _)
      | (with_reducible exact impl_RowOfNumber.mono _ _ _)
      | (with_reducible exact impl_TicksToRest.mono _ _)
      | (with_reducible exact impl_TurnsOfEach.mono _ _)
      | (with_reducible exact laws_mHas.mono _ _ _)
      | (with_reducible exact laws_mRises.mono _ _)
      | (with_reducible exact laws_mSame.mono _ _ _)
      | (with_reducible exact laws_mSum.mono _ _)
      | (with_reducible exact spec_CountTurns.mono _ _)
      | (with_reducible exact spec_DrawNumberOfRow.mono _ _)
      | (with_reducible exact spec_DrawRowAfter.mono _ _)
      | (with_reducible exact spec_DrawTicksToRest.mono _ _)
      | (with_reducible exact spec_FacingPairs.mono _ _)
      | (with_reducible exact spec_IsAtRest.mono _ _)
      | (with_reducible exact spec_IsRow.mono _ _)
      | (with_reducible exact spec_MirrorRow.mono _ _)
      | (with_reducible exact spec_NumberOfRow.mono _ _)
      | (with_reducible exact spec_RestOf.mono _ _)
      | (with_reducible exact spec_RowAfter.mono _ _ _)
      | (with_reducible exact spec_RowOfNumber.mono _ _ _)
      | (with_reducible exact spec_TickRow.mono _ _)
      | (with_reducible exact spec_TicksToRest.mono _ _)
      | (with_reducible exact spec_TurnedRow.mono _ _)
      | (with_reducible exact spec_TurnsOfEach.mono _ _)
      | (with_reducible exact LeO.refl _)
      | (with_reducible exact LeO.none _)
      | (with_reducible refine LeO.ite ?_ ?_)
      | (with_reducible refine LeO.bind ?_ (fun _ => ?_))
      | exact ih0 _
      | exact ih1 _ _ _ _ _ _ _ _
      | exact ih2 _ _ _ _ _ _ _ _
      | exact ih3 _ _ _ _ _ _ _ _ _ _ _ _ _ _ _
      | exact ih4 _ _ _ _ _ _ _ _ _ _ _ _ _ _ _ _
      | exact ih5 _ _ _ _ _ _ _ _
      | exact ih6 _ _ _ _ _ _ _ _ _ _
      | exact ih7 _ _ _ _ _ _ _ _ _
      | exact ih8 _ _ _
      | exact impl_CountTurns.mono _ _
      | exact impl_FacingPairs.mono _ _
      | exact impl_NumberOfRow.mono _ _
      | exact impl_RestOf.mono _ _
      | exact impl_RowAfter.mono _ _ _
      | exact impl_RowOfNumber.mono _ _ _
      | exact impl_TicksToRest.mono _ _
      | exact impl_TurnsOfEach.mono _ _
      | exact laws_mHas.mono _ _ _
      | exact laws_mRises.mono _ _
      | exact laws_mSame.mono _ _ _
      | exact laws_mSum.mono _ _
      | exact spec_CountTurns.mono _ _
      | exact spec_DrawNumberOfRow.mono _ _
      | exact spec_DrawRowAfter.mono _ _
      | exact spec_DrawTicksToRest.mono _ _
      | exact spec_FacingPairs.mono _ _
      | exact spec_IsAtRest.mono _ _
      | exact spec_IsRow.mono _ _
      | exact spec_MirrorRow.mono _ _
      | exact spec_NumberOfRow.mono _ _
      | exact spec_RestOf.mono _ _
      | exact spec_RowAfter.mono _ _ _
      | exact spec_RowOfNumber.mono _ _ _
      | exact spec_TickRow.mono _ _
      | exact spec_TicksToRest.mono _ _
      | exact spec_TurnedRow.mono _ _
      | exact spec_TurnsOfEach.mono _ _
      | exact LeO.none _
      | refine LeO.ite ?_ ?_
      | refine LeO.bind ?_ (fun _ => ?_)
    · intro y0 y1 y2 y3 y4 y5 y6 y7 y8 y9
      unfold laws_FnRowsRest.l2
      repeat' first
      | (with_reducible exact ih0 _)
      | (with_reducible exact ih1 _ _ _ _ _ _ _ _)
      | (with_reducible exact ih2 _ _ _ _ _ _ _ _)
      | (with_reducible exact ih3 _ _ _ _ _ _ _ _ _ _ _ _ _ _ _)
      | (with_reducible exact ih4 _ _ _ _ _ _ _ _ _ _ _ _ _ _ _ _)
      | (with_reducible exact ih5 _ _ _ _ _ _ _ _)
      | (with_reducible exact ih6 _ _ _ _ _ _ _ _ _ _)
      | (with_reducible exact ih7 _ _ _ _ _ _ _ _ _)
      | (with_reducible exact ih8 _ _ _)
      | (with_reducible exact impl_CountTurns.mono _ _)
      | (with_reducible exact impl_FacingPairs.mono _ _)
      | (with_reducible exact impl_NumberOfRow.mono _ _)
      | (with_reducible exact impl_RestOf.mono _ _)
      | (with_reducible exact impl_RowAfter.mono _ _ _)
      | (with_reducible exact impl_RowOfNumber.mono _ _ _)
      | (with_reducible exact impl_TicksToRest.mono _ _)
      | (with_reducible exact impl_TurnsOfEach.mono _ _)
      | (with_reducible exact laws_mHas.mono _ _ _)
      | (with_reducible exact laws_mRises.mono _ _)
      | (with_reducible exact laws_mSame.mono _ _ _)
      | (with_reducible exact laws_mSum.mono _ _)
      | (with_reducible exact spec_CountTurns.mono _ _)
      | (with_reducible exact spec_DrawNumberOfRow.mono _ _)
      | (with_reducible exact spec_DrawRowAfter.mono _ _)
      | (with_reducible exact spec_DrawTicksToRest.mono _ _)
      | (with_reducible exact spec_FacingPairs.mono _ _)
      | (with_reducible exact spec_IsAtRest.mono _ _)
      | (with_reducible exact spec_IsRow.mono _ _)
      | (with_reducible exact spec_MirrorRow.mono _ _)
      | (with_reducible exact spec_NumberOfRow.mono _ _)
      | (with_reducible exact spec_RestOf.mono _ _)
      | (with_reducible exact spec_RowAfter.mono _ _ _)
      | (with_reducible exact spec_RowOfNumber.mono _ _ _)
      | (with_reducible exact spec_TickRow.mono _ _)
      | (with_reducible exact spec_TicksToRest.mono _ _)
      | (with_reducible exact spec_TurnedRow.mono _ _)
      | (with_reducible exact spec_TurnsOfEach.mono _ _)
      | (with_reducible exact LeO.refl _)
      | (with_reducible exact LeO.none _)
      | (with_reducible refine LeO.ite ?_ ?_)
      | (with_reducible refine LeO.bind ?_ (fun _ => ?_))
      | exact ih0 _
      | exact ih1 _ _ _ _ _ _ _ _
      | exact ih2 _ _ _ _ _ _ _ _
      | exact ih3 _ _ _ _ _ _ _ _ _ _ _ _ _ _ _
      | exact ih4 _ _ _ _ _ _ _ _ _ _ _ _ _ _ _ _
      | exact ih5 _ _ _ _ _ _ _ _
      | exact ih6 _ _ _ _ _ _ _ _ _ _
      | exact ih7 _ _ _ _ _ _ _ _ _
      | exact ih8 _ _ _
      | exact impl_CountTurns.mono _ _
      | exact impl_FacingPairs.mono _ _
      | exact impl_NumberOfRow.mono _ _
      | exact impl_RestOf.mono _ _
      | exact impl_RowAfter.mono _ _ _
      | exact impl_RowOfNumber.mono _ _ _
      | exact impl_TicksToRest.mono _ _
      | exact impl_TurnsOfEach.mono _ _
      | exact laws_mHas.mono _ _ _
      | exact laws_mRises.mono _ _
      | exact laws_mSame.mono _ _ _
      | exact laws_mSum.mono _ _
      | exact spec_CountTurns.mono _ _
      | exact spec_DrawNumberOfRow.mono _ _
      | exact spec_DrawRowAfter.mono _ _
      | exact spec_DrawTicksToRest.mono _ _
      | exact spec_FacingPairs.mono _ _
      | exact spec_IsAtRest.mono _ _
      | exact spec_IsRow.mono _ _
      | exact spec_MirrorRow.mono _ _
      | exact spec_NumberOfRow.mono _ _
      | exact spec_RestOf.mono _ _
      | exact spec_RowAfter.mono _ _ _
      | exact spec_RowOfNumber.mono _ _ _
      | exact spec_TickRow.mono _ _
      | exact spec_TicksToRest.mono _ _
      | exact spec_TurnedRow.mono _ _
      | exact spec_TurnsOfEach.mono _ _
      | exact LeO.none _
      | refine LeO.ite ?_ ?_
      | refine LeO.bind ?_ (fun _ => ?_)
    · intro y0 y1 y2 y3 y4 y5 y6 y7 y8
      unfold laws_FnRowsRest.l3
      repeat' first
      | (with_reducible exact ih0 _)
      | (with_reducible exact ih1 _ _ _ _ _ _ _ _)
      | (with_reducible exact ih2 _ _ _ _ _ _ _ _)
      | (with_reducible exact ih3 _ _ _ _ _ _ _ _ _ _ _ _ _ _ _)
      | (with_reducible exact ih4 _ _ _ _ _ _ _ _ _ _ _ _ _ _ _ _)
      | (with_reducible exact ih5 _ _ _ _ _ _ _ _)
      | (with_reducible exact ih6 _ _ _ _ _ _ _ _ _ _)
      | (with_reducible exact ih7 _ _ _ _ _ _ _ _ _)
      | (with_reducible exact ih8 _ _ _)
      | (with_reducible exact impl_CountTurns.mono _ _)
      | (with_reducible exact impl_FacingPairs.mono _ _)
      | (with_reducible exact impl_NumberOfRow.mono _ _)
      | (with_reducible exact impl_RestOf.mono _ _)
      | (with_reducible exact impl_RowAfter.mono _ _ _)
      | (with_reducible exact impl_RowOfNumber.mono _ _ _)
      | (with_reducible exact impl_TicksToRest.mono _ _)
      | (with_reducible exact impl_TurnsOfEach.mono _ _)
      | (with_reducible exact laws_mHas.mono _ _ _)
      | (with_reducible exact laws_mRises.mono _ _)
      | (with_reducible exact laws_mSame.mono _ _ _)
      | (with_reducible exact laws_mSum.mono _ _)
      | (with_reducible exact spec_CountTurns.mono _ _)
      | (with_reducible exact spec_DrawNumberOfRow.mono _ _)
      | (with_reducible exact spec_DrawRowAfter.mono _ _)
      | (with_reducible exact spec_DrawTicksToRest.mono _ _)
      | (with_reducible exact spec_FacingPairs.mono _ _)
      | (with_reducible exact spec_IsAtRest.mono _ _)
      | (with_reducible exact spec_IsRow.mono _ _)
      | (with_reducible exact spec_MirrorRow.mono _ _)
      | (with_reducible exact spec_NumberOfRow.mono _ _)
      | (with_reducible exact spec_RestOf.mono _ _)
      | (with_reducible exact spec_RowAfter.mono _ _ _)
      | (with_reducible exact spec_RowOfNumber.mono _ _ _)
      | (with_reducible exact spec_TickRow.mono _ _)
      | (with_reducible exact spec_TicksToRest.mono _ _)
      | (with_reducible exact spec_TurnedRow.mono _ _)
      | (with_reducible exact spec_TurnsOfEach.mono _ _)
      | (with_reducible exact LeO.refl _)
      | (with_reducible exact LeO.none _)
      | (with_reducible refine LeO.ite ?_ ?_)
      | (with_reducible refine LeO.bind ?_ (fun _ => ?_))
      | exact ih0 _
      | exact ih1 _ _ _ _ _ _ _ _
      | exact ih2 _ _ _ _ _ _ _ _
      | exact ih3 _ _ _ _ _ _ _ _ _ _ _ _ _ _ _
      | exact ih4 _ _ _ _ _ _ _ _ _ _ _ _ _ _ _ _
      | exact ih5 _ _ _ _ _ _ _ _
      | exact ih6 _ _ _ _ _ _ _ _ _ _
      | exact ih7 _ _ _ _ _ _ _ _ _
      | exact ih8 _ _ _
      | exact impl_CountTurns.mono _ _
      | exact impl_FacingPairs.mono _ _
      | exact impl_NumberOfRow.mono _ _
      | exact impl_RestOf.mono _ _
      | exact impl_RowAfter.mono _ _ _
      | exact impl_RowOfNumber.mono _ _ _
      | exact impl_TicksToRest.mono _ _
      | exact impl_TurnsOfEach.mono _ _
      | exact laws_mHas.mono _ _ _
      | exact laws_mRises.mono _ _
      | exact laws_mSame.mono _ _ _
      | exact laws_mSum.mono _ _
      | exact spec_CountTurns.mono _ _
      | exact spec_DrawNumberOfRow.mono _ _
      | exact spec_DrawRowAfter.mono _ _
      | exact spec_DrawTicksToRest.mono _ _
      | exact spec_FacingPairs.mono _ _
      | exact spec_IsAtRest.mono _ _
      | exact spec_IsRow.mono _ _
      | exact spec_MirrorRow.mono _ _
      | exact spec_NumberOfRow.mono _ _
      | exact spec_RestOf.mono _ _
      | exact spec_RowAfter.mono _ _ _
      | exact spec_RowOfNumber.mono _ _ _
      | exact spec_TickRow.mono _ _
      | exact spec_TicksToRest.mono _ _
      | exact spec_TurnedRow.mono _ _
      | exact spec_TurnsOfEach.mono _ _
      | exact LeO.none _
      | refine LeO.ite ?_ ?_
      | refine LeO.bind ?_ (fun _ => ?_)
    · intro y0 y1 y2
      unfold laws_FnRowsRest.j5
      repeat' first
      | (with_reducible exact ih0 _)
      | (with_reducible exact ih1 _ _ _ _ _ _ _ _)
      | (with_reducible exact ih2 _ _ _ _ _ _ _ _)
      | (with_reducible exact ih3 _ _ _ _ _ _ _ _ _ _ _ _ _ _ _)
      | (with_reducible exact ih4 _ _ _ _ _ _ _ _ _ _ _ _ _ _ _ _)
      | (with_reducible exact ih5 _ _ _ _ _ _ _ _)
      | (with_reducible exact ih6 _ _ _ _ _ _ _ _ _ _)
      | (with_reducible exact ih7 _ _ _ _ _ _ _ _ _)
      | (with_reducible exact ih8 _ _ _)
      | (with_reducible exact impl_CountTurns.mono _ _)
      | (with_reducible exact impl_FacingPairs.mono _ _)
      | (with_reducible exact impl_NumberOfRow.mono _ _)
      | (with_reducible exact impl_RestOf.mono _ _)
      | (with_reducible exact impl_RowAfter.mono _ _ _)
      | (with_reducible exact impl_RowOfNumber.mono _ _ _)
      | (with_reducible exact impl_TicksToRest.mono _ _)
      | (with_reducible exact impl_TurnsOfEach.mono _ _)
      | (with_reducible exact laws_mHas.mono _ _ _)
      | (with_reducible exact laws_mRises.mono _ _)
      | (with_reducible exact laws_mSame.mono _ _ _)
      | (with_reducible exact laws_mSum.mono _ _)
      | (with_reducible exact spec_CountTurns.mono _ _)
      | (with_reducible exact spec_DrawNumberOfRow.mono _ _)
      | (with_reducible exact spec_DrawRowAfter.mono _ _)
      | (with_reducible exact spec_DrawTicksToRest.mono _ _)
      | (with_reducible exact spec_FacingPairs.mono _ _)
      | (with_reducible exact spec_IsAtRest.mono _ _)
      | (with_reducible exact spec_IsRow.mono _ _)
      | (with_reducible exact spec_MirrorRow.mono _ _)
      | (with_reducible exact spec_NumberOfRow.mono _ _)
      | (with_reducible exact spec_RestOf.mono _ _)
      | (with_reducible exact spec_RowAfter.mono _ _ _)
      | (with_reducible exact spec_RowOfNumber.mono _ _ _)
      | (with_reducible exact spec_TickRow.mono _ _)
      | (with_reducible exact spec_TicksToRest.mono _ _)
      | (with_reducible exact spec_TurnedRow.mono _ _)
      | (with_reducible exact spec_TurnsOfEach.mono _ _)
      | (with_reducible exact LeO.refl _)
      | (with_reducible exact LeO.none _)
      | (with_reducible refine LeO.ite ?_ ?_)
      | (with_reducible refine LeO.bind ?_ (fun _ => ?_))
      | exact ih0 _
      | exact ih1 _ _ _ _ _ _ _ _
      | exact ih2 _ _ _ _ _ _ _ _
      | exact ih3 _ _ _ _ _ _ _ _ _ _ _ _ _ _ _
      | exact ih4 _ _ _ _ _ _ _ _ _ _ _ _ _ _ _ _
      | exact ih5 _ _ _ _ _ _ _ _
      | exact ih6 _ _ _ _ _ _ _ _ _ _
      | exact ih7 _ _ _ _ _ _ _ _ _
      | exact ih8 _ _ _
      | exact impl_CountTurns.mono _ _
      | exact impl_FacingPairs.mono _ _
      | exact impl_NumberOfRow.mono _ _
      | exact impl_RestOf.mono _ _
      | exact impl_RowAfter.mono _ _ _
      | exact impl_RowOfNumber.mono _ _ _
      | exact impl_TicksToRest.mono _ _
      | exact impl_TurnsOfEach.mono _ _
      | exact laws_mHas.mono _ _ _
      | exact laws_mRises.mono _ _
      | exact laws_mSame.mono _ _ _
      | exact laws_mSum.mono _ _
      | exact spec_CountTurns.mono _ _
      | exact spec_DrawNumberOfRow.mono _ _
      | exact spec_DrawRowAfter.mono _ _
      | exact spec_DrawTicksToRest.mono _ _
      | exact spec_FacingPairs.mono _ _
      | exact spec_IsAtRest.mono _ _
      | exact spec_IsRow.mono _ _
      | exact spec_MirrorRow.mono _ _
      | exact spec_NumberOfRow.mono _ _
      | exact spec_RestOf.mono _ _
      | exact spec_RowAfter.mono _ _ _
      | exact spec_RowOfNumber.mono _ _ _
      | exact spec_TickRow.mono _ _
      | exact spec_TicksToRest.mono _ _
      | exact spec_TurnedRow.mono _ _
      | exact spec_TurnsOfEach.mono _ _
      | exact LeO.none _
      | refine LeO.ite ?_ ?_
      | refine LeO.bind ?_ (fun _ => ?_)
theorem laws_FnRowsRest.mono : ∀ a0 a1 k, LeO (laws_FnRowsRest.f k a0 a1) (laws_FnRowsRest.f (k + 1) a0 a1) := by
  intro a0 a1 k
  obtain ⟨ih0, ih1, ih2, ih3, ih4, ih5, ih6, ih7, ih8⟩ := laws_FnRowsRest.mono_l k
  unfold laws_FnRowsRest.f
  repeat' first
      | (with_reducible exact ih0 _)
      | (with_reducible exact ih1 _ _ _ _ _ _ _ _)
      | (with_reducible exact ih2 _ _ _ _ _ _ _ _)
      | (with_reducible exact ih3 _ _ _ _ _ _ _ _ _ _ _ _ _ _ _)
      | (with_reducible exact ih4 _ _ _ _ _ _ _ _ _ _ _ _ _ _ _ _)
      | (with_reducible exact ih5 _ _ _ _ _ _ _ _)
      | (with_reducible exact ih6 _ _ _ _ _ _ _ _ _ _)
      | (with_reducible exact ih7 _ _ _ _ _ _ _ _ _)
      | (with_reducible exact ih8 _ _ _)
      | (with_reducible exact impl_CountTurns.mono _ _)
      | (with_reducible exact impl_FacingPairs.mono _ _)
      | (with_reducible exact impl_NumberOfRow.mono _ _)
      | (with_reducible exact impl_RestOf.mono _ _)
      | (with_reducible exact impl_RowAfter.mono _ _ _)
      | (with_reducible exact impl_RowOfNumber.mono _ _ _)
      | (with_reducible exact impl_TicksToRest.mono _ _)
      | (with_reducible exact impl_TurnsOfEach.mono _ _)
      | (with_reducible exact laws_mHas.mono _ _ _)
      | (with_reducible exact laws_mRises.mono _ _)
      | (with_reducible exact laws_mSame.mono _ _ _)
      | (with_reducible exact laws_mSum.mono _ _)
      | (with_reducible exact spec_CountTurns.mono _ _)
      | (with_reducible exact spec_DrawNumberOfRow.mono _ _)
      | (with_reducible exact spec_DrawRowAfter.mono _ _)
      | (with_reducible exact spec_DrawTicksToRest.mono _ _)
      | (with_reducible exact spec_FacingPairs.mono _ _)
      | (with_reducible exact spec_IsAtRest.mono _ _)
      | (with_reducible exact spec_IsRow.mono _ _)
      | (with_reducible exact spec_MirrorRow.mono _ _)
      | (with_reducible exact spec_NumberOfRow.mono _ _)
      | (with_reducible exact spec_RestOf.mono _ _)
      | (with_reducible exact spec_RowAfter.mono _ _ _)
      | (with_reducible exact spec_RowOfNumber.mono _ _ _)
      | (with_reducible exact spec_TickRow.mono _ _)
      | (with_reducible exact spec_TicksToRest.mono _ _)
      | (with_reducible exact spec_TurnedRow.mono _ _)
      | (with_reducible exact spec_TurnsOfEach.mono _ _)
      | (with_reducible exact LeO.refl _)
      | (with_reducible exact LeO.none _)
      | (with_reducible refine LeO.ite ?_ ?_)
      | (with_reducible refine LeO.bind ?_ (fun _ => ?_))
      | exact ih0 _
      | exact ih1 _ _ _ _ _ _ _ _
      | exact ih2 _ _ _ _ _ _ _ _
      | exact ih3 _ _ _ _ _ _ _ _ _ _ _ _ _ _ _
      | exact ih4 _ _ _ _ _ _ _ _ _ _ _ _ _ _ _ _
      | exact ih5 _ _ _ _ _ _ _ _
      | exact ih6 _ _ _ _ _ _ _ _ _ _
      | exact ih7 _ _ _ _ _ _ _ _ _
      | exact ih8 _ _ _
      | exact impl_CountTurns.mono _ _
      | exact impl_FacingPairs.mono _ _
      | exact impl_NumberOfRow.mono _ _
      | exact impl_RestOf.mono _ _
      | exact impl_RowAfter.mono _ _ _
      | exact impl_RowOfNumber.mono _ _ _
      | exact impl_TicksToRest.mono _ _
      | exact impl_TurnsOfEach.mono _ _
      | exact laws_mHas.mono _ _ _
      | exact laws_mRises.mono _ _
      | exact laws_mSame.mono _ _ _
      | exact laws_mSum.mono _ _
      | exact spec_CountTurns.mono _ _
      | exact spec_DrawNumberOfRow.mono _ _
      | exact spec_DrawRowAfter.mono _ _
      | exact spec_DrawTicksToRest.mono _ _
      | exact spec_FacingPairs.mono _ _
      | exact spec_IsAtRest.mono _ _
      | exact spec_IsRow.mono _ _
      | exact spec_MirrorRow.mono _ _
      | exact spec_NumberOfRow.mono _ _
      | exact spec_RestOf.mono _ _
      | exact spec_RowAfter.mono _ _ _
      | exact spec_RowOfNumber.mono _ _ _
      | exact spec_TickRow.mono _ _
      | exact spec_TicksToRest.mono _ _
      | exact spec_TurnedRow.mono _ _
      | exact spec_TurnsOfEach.mono _ _
      | exact LeO.none _
      | refine LeO.ite ?_ ?_
      | refine LeO.bind ?_ (fun _ => ?_)
def laws_FnRowsRest.T50 : Bool × List (List Nat × List Nat) := (true, [([], []), ([], []), ([0, 1], [0, 1]), ([], []), ([], []), ([3, 4], [3, 4]), ([2, 5], [2, 5]), ([], []), ([], []), ([7, 8], [7, 8]), ([9, 9], [9]), ([10], [10]), ([10], [10]), ([12, 10], [10, 12]), ([11, 13, 10, 10], [10, 11, 13]), ([10, 14], [10, 14]), ([6, 15], [6, 15]), ([16, 14], [16]), ([17], [17]), ([17], [17]), ([18, 19, 17], [17, 18, 19]), ([17], [17]), ([17], [17]), ([21, 22, 17], [17, 21, 22]), ([20, 23, 17], [17, 20, 23]), ([17, 24], [17, 24]), ([25, 17], [25]), ([26], [26]), ([26], [26]), ([27, 28, 26], [26, 27, 28]), ([26], [26]), ([26], [26]), ([31, 26], [26, 31]), ([32, 26], [26, 32]), ([26], [26]), ([33, 34, 26], [26, 33, 34]), ([30, 35, 26], [26, 30, 35]), ([29, 36, 26], [26, 29, 36]), ([26, 37], [26, 37])])
def laws_FnRowsRest.B50 : List Nat := [0, 0, 3, 0, 0, 24, 63, 0, 0, 384, 896, 1920, 1920, 6016, 16256, 32640, 65535, 131071, 262143, 262143, 1048575, 262143, 262143, 6553599, 16777215, 33554431, 67108863, 134217727, 134217727, 536870911, 134217727, 134217727, 2281701375, 6576668671, 134217727, 32346472447, 67779952639, 137438953471, 274877906943]
theorem laws_FnRowsRest.tab50 : rtab .any (opsOf Tryz.f3 50) = laws_FnRowsRest.T50 := by kernel_rfl
theorem laws_FnRowsRest.bits50 : waitsOk laws_FnRowsRest.T50.2 laws_FnRowsRest.B50 = true := by kernel_rfl
end Go.Proofs.YtolalphffodkdaaGreatDoor.PFnRowsRest
