-- Laid by xprint, a program of this session that runs over the kit's print.
import Derived.Test.YtgfoookdmcffpaaDoorPFnRowsBeforex0
import Derived.Test.YtgfoookdmcffpaaDoorPFnRowsBeforex1
import Derived.Test.YtgfoookdmcffpaaDoorPFnRowsBeforex2
import Derived.Test.YtgfoookdmcffpaaDoorPFnRowsBeforex3
import Derived.Test.YtgfoookdmcffpaaDoorPFnRowsBeforex4
import Derived.Test.YtgfoookdmcffpaaDoorPFnRowsBeforex5
import Derived.Test.YtgfoookdmcffpaaDoorPFnRowsBeforex6
namespace Go.Proofs.YtgfoookdmcffpaaDoor.PFnRowsBefore
open Go.RowKit Go.Proofs.YtgfoookdmcffpaaDoorW.PrintWords Go.Proofs.YtgfoookdmcffpaaDoorW.PrintLast Go.Proofs.YtgfoookdmcffpaaDoorW.PrintMore Go.Proofs.YtgfoookdmcffpaaDoor.Sq
attribute [local go_sem] max2_int min2_int max_two min_two max_three min_three max_four min_four   -- for this text's walks alone
set_option linter.unusedVariables false
set_option linter.unusedSimpArgs false

/-! ### laws_FnRowsBefore: function 3 -/
mutual
def laws_FnRowsBefore.j2 : Nat → List Int → Option (Bool)
  | 0, _ => none
  | k + 1, x1 => (spec_DrawLongestTicks.f x1).bind fun t336 => ((impl_LongestTicks.f k t336).bind fun bt337 => ((spec_LongestTicks.f k t336).bind fun bt339 => ((impl_FirstLongest.f k t336).bind fun bt341 => ((spec_FirstLongest.f k t336).bind fun bt343 => ((impl_SumOfTicks.f k t336).bind fun bt345 => ((spec_SumOfTicks.f k t336).bind fun bt347 => ((spec_DrawCountByTicks.f x1).bind fun bt349 => ((impl_CountByTicks.f k bt349.1 bt349.2).bind fun bt351 => ((spec_CountByTicks.f k bt349.1 bt349.2).bind fun bt353 => ((spec_DrawCountAtRest.f x1).bind fun t355 => ((impl_CountAtRest.f t355).bind fun bt356 => ((spec_CountAtRest.f t355).bind fun bt358 => (if (bt337.2 != bt339.2) = true then (some false) else (if bt337.1 = bt339.1 then (if (bt341.2 != bt343.2) = true then (some false) else (if bt341.1.toList = bt343.1.toList then (if (bt345.2 != bt347.2) = true then (some false) else (if bt345.1 = bt347.1 then (if (bt351.2 != bt353.2) = true then (some false) else (if bt351.1 = bt353.1 then (if (bt356.2 != bt358.2) = true then (some false) else (if bt356.1 = bt358.1 then (if (bt341.2 != bt337.2) = true then (some false) else (if (bt345.2 != bt337.2) = true then (some false) else (if bt356.2 = true then (laws_FnRowsBefore.j3 k t336 bt337.1 bt337.2 bt341.1 bt345.1 (bt356.1 != (wrap64 (t355 + 1)))) else (laws_FnRowsBefore.j3 k t336 bt337.1 bt337.2 bt341.1 bt345.1 false)))) else (some false))) else (some false))) else (some false))) else (some false))) else (some false)))))))))))))))
def laws_FnRowsBefore.j3 : Nat → Int → Int → Bool → ByteArray → Int → Bool → Option (Bool)
  | 0, _, _, _, _, _, _ => none
  | k + 1, x20, x21, x22, x25, x29, x284 => if x284 = true then (some false) else (if x22 = true then ((impl_TicksToRest.f k x25).bind fun bt360 => (laws_FnRowsBefore.l1 k x20 x21 x25 x29 bt360.1 bt360.2 0 0 0)) else (some true))
def laws_FnRowsBefore.l1 : Nat → Int → Int → ByteArray → Int → Int → Bool → Int → Int → Int → Option (Bool)
  | 0, _, _, _, _, _, _, _, _, _ => none
  | k + 1, x20, x21, x25, x29, x44, x45, x46, x47, x48 => if x48 ≤ x20 then ((impl_CountByTicks.f k x20 x48).bind fun bt362 => (if bt362.2 = true then (if x48 > x21 then (if bt362.1 = 0 then (if x48 = x21 then (if bt362.1 < 1 then (some false) else (if x48 = 0 then (if bt362.1 = (wrap64 (x20 + 1)) then (laws_FnRowsBefore.l1 k x20 x21 x25 x29 x44 x45 (wrap64 (x46 + bt362.1)) (wrap64 (x47 + (wrap64 (x48 * bt362.1)))) (wrap64 (x48 + 1))) else (some false)) else (laws_FnRowsBefore.l1 k x20 x21 x25 x29 x44 x45 (wrap64 (x46 + bt362.1)) (wrap64 (x47 + (wrap64 (x48 * bt362.1)))) (wrap64 (x48 + 1))))) else (if x48 = 0 then (if bt362.1 = (wrap64 (x20 + 1)) then (laws_FnRowsBefore.l1 k x20 x21 x25 x29 x44 x45 (wrap64 (x46 + bt362.1)) (wrap64 (x47 + (wrap64 (x48 * bt362.1)))) (wrap64 (x48 + 1))) else (some false)) else (laws_FnRowsBefore.l1 k x20 x21 x25 x29 x44 x45 (wrap64 (x46 + bt362.1)) (wrap64 (x47 + (wrap64 (x48 * bt362.1)))) (wrap64 (x48 + 1))))) else (some false)) else (if x48 = x21 then (if bt362.1 < 1 then (some false) else (if x48 = 0 then (if bt362.1 = (wrap64 (x20 + 1)) then (laws_FnRowsBefore.l1 k x20 x21 x25 x29 x44 x45 (wrap64 (x46 + bt362.1)) (wrap64 (x47 + (wrap64 (x48 * bt362.1)))) (wrap64 (x48 + 1))) else (some false)) else (laws_FnRowsBefore.l1 k x20 x21 x25 x29 x44 x45 (wrap64 (x46 + bt362.1)) (wrap64 (x47 + (wrap64 (x48 * bt362.1)))) (wrap64 (x48 + 1))))) else (if x48 = 0 then (if bt362.1 = (wrap64 (x20 + 1)) then (laws_FnRowsBefore.l1 k x20 x21 x25 x29 x44 x45 (wrap64 (x46 + bt362.1)) (wrap64 (x47 + (wrap64 (x48 * bt362.1)))) (wrap64 (x48 + 1))) else (some false)) else (laws_FnRowsBefore.l1 k x20 x21 x25 x29 x44 x45 (wrap64 (x46 + bt362.1)) (wrap64 (x47 + (wrap64 (x48 * bt362.1)))) (wrap64 (x48 + 1)))))) else (some false))) else (if x45 = true then (if x44 = x21 then (if (x25.size : Int) = x20 then (if 0 ≤ x20 then (if x46 = (shl .i64 1 x20) then (if x47 = x29 then (if x21 > x20 then (some false) else (some true)) else (some false)) else (some false)) else (none)) else (some false)) else (some false)) else (some false))
def laws_FnRowsBefore.j0 : Nat → List Int → ByteArray → List ByteArray → Bool → Option (Bool)
  | 0, _, _, _, _ => none
  | k + 1, x1, x5, x6, x123 => if x123 = true then (some false) else (laws_FnRowsBefore.l0 k x1 x5 x6 x6 (x6.length : Int) 0)
def laws_FnRowsBefore.l0 : Nat → List Int → ByteArray → List ByteArray → List ByteArray → Int → Int → Option (Bool)
  | 0, _, _, _, _, _, _ => none
  | k + 1, x1, x5, x6, x124, x125, x126 => if x126 < x125 then (if 0 ≤ x126 then (if x126 < (x124.length : Int) then ((impl_TickRow.f (rdOf ByteArray.empty x124 x126)).bind fun bt333 => (if bt333.2 = true then (if bt333.1.toList = x5.toList then (if x126 > 0 then (if 0 ≤ (wrap64 (x126 - 1)) then (if (wrap64 (x126 - 1)) < (x6.length : Int) then (if ((Op.bytesLess ((rdOf ByteArray.empty x6 (wrap64 (x126 - 1))).toList) ((rdOf ByteArray.empty x124 x126).toList)) = true) then (laws_FnRowsBefore.l0 k x1 x5 x6 x124 x125 (wrap64 (x126 + 1))) else (some false)) else (none)) else (none)) else (laws_FnRowsBefore.l0 k x1 x5 x6 x124 x125 (wrap64 (x126 + 1)))) else (some false)) else (some false))) else (none)) else (none)) else (laws_FnRowsBefore.j2 k x1)
end
def laws_FnRowsBefore.f (k : Nat) (l0 : List Int) (l1 : List Int) : Option (Bool) := (laws_big.f l0 l1).bind fun t314 => (if t314 = true then (some true) else ((spec_DrawRowsBefore.f k l0).bind fun t315 => ((impl_RowsBefore.f k t315).bind fun bt316 => ((spec_RowsBefore.f k t315).bind fun bt320 => ((impl_HasBefore.f k t315).bind fun bt324 => ((spec_HasBefore.f k t315).bind fun bt326 => (if (bt316.2 != bt320.2) = true then (some false) else ((laws_mTexts.f k bt316.1 bt320.1).bind fun t328 => (if t328 = true then (if (bt324.2 != bt326.2) = true then (some false) else (if (bt324.1 != bt326.1) = true then (some false) else (if (bt324.2 != bt316.2) = true then (some false) else (if bt316.2 = true then ((impl_IsAtRest.f t315).bind fun bt329 => (if (bt324.1 != (decide ((bt316.1.length : Int) > 0))) = true then (some false) else (if bt329.2 = true then (if bt329.1 = true then ((laws_mText.f k bt316.1 t315).bind fun t331 => (laws_FnRowsBefore.j0 k l1 t315 bt316.1 (!t331))) else (laws_FnRowsBefore.j0 k l1 t315 bt316.1 false)) else (some false)))) else (laws_FnRowsBefore.j2 k l1))))) else (some false))))))))))
theorem laws_FnRowsBefore.mono_l : ∀ k, (∀ y0, LeO (laws_FnRowsBefore.j2 k y0) (laws_FnRowsBefore.j2 (k + 1) y0)) ∧ (∀ y0 y1 y2 y3 y4 y5, LeO (laws_FnRowsBefore.j3 k y0 y1 y2 y3 y4 y5) (laws_FnRowsBefore.j3 (k + 1) y0 y1 y2 y3 y4 y5)) ∧ (∀ y0 y1 y2 y3 y4 y5 y6 y7 y8, LeO (laws_FnRowsBefore.l1 k y0 y1 y2 y3 y4 y5 y6 y7 y8) (laws_FnRowsBefore.l1 (k + 1) y0 y1 y2 y3 y4 y5 y6 y7 y8)) ∧ (∀ y0 y1 y2 y3, LeO (laws_FnRowsBefore.j0 k y0 y1 y2 y3) (laws_FnRowsBefore.j0 (k + 1) y0 y1 y2 y3)) ∧ (∀ y0 y1 y2 y3 y4 y5, LeO (laws_FnRowsBefore.l0 k y0 y1 y2 y3 y4 y5) (laws_FnRowsBefore.l0 (k + 1) y0 y1 y2 y3 y4 y5))
  | 0 => ⟨fun _ r h => by simp [laws_FnRowsBefore.j2] at h, fun _ _ _ _ _ _ r h => by simp [laws_FnRowsBefore.j3] at h, fun _ _ _ _ _ _ _ _ _ r h => by simp [laws_FnRowsBefore.l1] at h, fun _ _ _ _ r h => by simp [laws_FnRowsBefore.j0] at h, fun _ _ _ _ _ _ r h => by simp [laws_FnRowsBefore.l0] at h⟩
  | k + 1 => by
    obtain ⟨ih0, ih1, ih2, ih3, ih4⟩ := laws_FnRowsBefore.mono_l k
    refine ⟨?_, ?_, ?_, ?_, ?_⟩
    · intro y0
      unfold laws_FnRowsBefore.j2
      repeat' first
      | (with_reducible exact ih0 _)
      | (with_reducible exact ih1 _ _ _ _ _ _)
      | (with_reducible exact ih2 _ _ _ _ _ _ _ _ _)
      | (with_reducible exact ih3 _ _ _ _)
      | (with_reducible exact ih4 _ _ _ _ _ _)
      | (with_reducible exact impl_CountByTicks.mono _ _ _)
      | (with_reducible exact impl_FirstLongest.mono _ _)
      | (with_reducible exact impl_HasBefore.mono _ _)
      | (with_reducible exact impl_LongestTicks.mono _ _)
      | (with_reducible exact impl_RowsBefore.mono _ _)
      | (with_reducible exact impl_SumOfTicks.mono _ _)
      | (with_reducible exact impl_TicksToRest.mono _ _)
      | (with_reducible exact laws_mText.mono _ _ _)
      | (with_reducible exact laws_mTexts.mono _ _ _)
      | (with_reducible exact spec_CountByTicks.mono _ _ _)
      | (with_reducible exact spec_DrawRowsBefore.mono _ _)
      | (with_reducible exact spec_FirstLongest.mono _ _)
      | (with_reducible exact spec_HasBefore.mono _ _)
      | (with_reducible exact spec_LongestTicks.mono _ _)
      | (with_reducible exact spec_RowsBefore.mono _ _)
      | (with_reducible exact spec_SumOfTicks.mono _ _)
      | (with_reducible exact LeO.refl _)
      | (with_reducible exact LeO.none _)
      | (with_reducible refine LeO.ite ?_ ?_)
      | (with_reducible refine LeO.bind ?_ (fun _ => ?_))
      | exact ih0 _
      | exact ih1 _ _ _ _ _ _
      | exact ih2 _ _ _ _ _ _ _ _ _
      | exact ih3 _ _ _ _
      | exact ih4 _ _ _ _ _ _
      | exact impl_CountByTicks.mono _ _ _
      | exact impl_FirstLongest.mono _ _
      | exact impl_HasBefore.mono _ _
      | exact impl_LongestTicks.mono _ _
      | exact impl_RowsBefore.mono _ _
      | exact impl_SumOfTicks.mono _ _
      | exact impl_TicksToRest.mono _ _
      | exact laws_mText.mono _ _ _
      | exact laws_mTexts.mono _ _ _
      | exact spec_CountByTicks.mono _ _ _
      | exact spec_DrawRowsBefore.mono _ _
      | exact spec_FirstLongest.mono _ _
      | exact spec_HasBefore.mono _ _
      | exact spec_LongestTicks.mono _ _
      | exact spec_RowsBefore.mono _ _
      | exact spec_SumOfTicks.mono _ _
      | exact LeO.none _
      | refine LeO.ite ?_ ?_
      | refine LeO.bind ?_ (fun _ => ?_)
    · intro y0 y1 y2 y3 y4 y5
      unfold laws_FnRowsBefore.j3
      repeat' first
      | (with_reducible exact ih0 _)
      | (with_reducible exact ih1 _ _ _ _ _ _)
      | (with_reducible exact ih2 _ _ _ _ _ _ _ _ _)
      | (with_reducible exact ih3 _ _ _ _)
      | (with_reducible exact ih4 _ _ _ _ _ _)
      | (with_reducible exact impl_CountByTicks.mono _ _ _)
      | (with_reducible exact impl_FirstLongest.mono _ _)
      | (with_reducible exact impl_HasBefore.mono _ _)
      | (with_reducible exact impl_LongestTicks.mono _ _)
      | (with_reducible exact impl_RowsBefore.mono _ _)
      | (with_reducible exact impl_SumOfTicks.mono _ _)
      | (with_reducible exact impl_TicksToRest.mono _ _)
      | (with_reducible exact laws_mText.mono _ _ _)
      | (with_reducible exact laws_mTexts.mono _ _ _)
      | (with_reducible exact spec_CountByTicks.mono _ _ _)
      | (with_reducible exact spec_DrawRowsBefore.mono _ _)
      | (with_reducible exact spec_FirstLongest.mono _ _)
      | (with_reducible exact spec_HasBefore.mono _ _)
      | (with_reducible exact spec_LongestTicks.mono _ _)
      | (with_reducible exact spec_RowsBefore.mono _ _)
      | (with_reducible exact spec_SumOfTicks.mono _ _)
      | (with_reducible exact LeO.refl _)
      | (with_reducible exact LeO.none _)
      | (with_reducible refine LeO.ite ?_ ?_)
      | (with_reducible refine LeO.bind ?_ (fun _ => ?_))
      | exact ih0 _
      | exact ih1 _ _ _ _ _ _
      | exact ih2 _ _ _ _ _ _ _ _ _
      | exact ih3 _ _ _ _
      | exact ih4 _ _ _ _ _ _
      | exact impl_CountByTicks.mono _ _ _
      | exact impl_FirstLongest.mono _ _
      | exact impl_HasBefore.mono _ _
      | exact impl_LongestTicks.mono _ _
      | exact impl_RowsBefore.mono _ _
      | exact impl_SumOfTicks.mono _ _
      | exact impl_TicksToRest.mono _ _
      | exact laws_mText.mono _ _ _
      | exact laws_mTexts.mono _ _ _
      | exact spec_CountByTicks.mono _ _ _
      | exact spec_DrawRowsBefore.mono _ _
      | exact spec_FirstLongest.mono _ _
      | exact spec_HasBefore.mono _ _
      | exact spec_LongestTicks.mono _ _
      | exact spec_RowsBefore.mono _ _
      | exact spec_SumOfTicks.mono _ _
      | exact LeO.none _
      | refine LeO.ite ?_ ?_
      | refine LeO.bind ?_ (fun _ => ?_)
    · intro y0 y1 y2 y3 y4 y5 y6 y7 y8
      unfold laws_FnRowsBefore.l1
      repeat' first
      | (with_reducible exact ih0 _)
      | (with_reducible exact ih1 _ _ _ _ _ _)
      | (with_reducible exact ih2 _ _ _ _ _ _ _ _ _)
      | (with_reducible exact ih3 _ _ _ _)
      | (with_reducible exact ih4 _ _ _ _ _ _)
      | (with_reducible exact impl_CountByTicks.mono _ _ _)
      | (with_reducible exact impl_FirstLongest.mono _ _)
      | (with_reducible exact impl_HasBefore.mono _ _)
      | (with_reducible exact impl_LongestTicks.mono _ _)
      | (with_reducible exact impl_RowsBefore.mono _ _)
      | (with_reducible exact impl_SumOfTicks.mono _ _)
      | (with_reducible exact impl_TicksToRest.mono _ _)
      | (with_reducible exact laws_mText.mono _ _ _)
      | (with_reducible exact laws_mTexts.mono _ _ _)
      | (with_reducible exact spec_CountByTicks.mono _ _ _)
      | (with_reducible exact spec_DrawRowsBefore.mono _ _)
      | (with_reducible exact spec_FirstLongest.mono _ _)
      | (with_reducible exact spec_HasBefore.mono _ _)
      | (with_reducible exact spec_LongestTicks.mono _ _)
      | (with_reducible exact spec_RowsBefore.mono _ _)
      | (with_reducible exact spec_SumOfTicks.mono _ _)
      | (with_reducible exact LeO.refl _)
      | (with_reducible exact LeO.none _)
      | (with_reducible refine LeO.ite ?_ ?_)
      | (with_reducible refine LeO.bind ?_ (fun _ => ?_))
      | exact ih0 _
      | exact ih1 _ _ _ _ _ _
      | exact ih2 _ _ _ _ _ _ _ _ _
      | exact ih3 _ _ _ _
      | exact ih4 _ _ _ _ _ _
      | exact impl_CountByTicks.mono _ _ _
      | exact impl_FirstLongest.mono _ _
      | exact impl_HasBefore.mono _ _
      | exact impl_LongestTicks.mono _ _
      | exact impl_RowsBefore.mono _ _
      | exact impl_SumOfTicks.mono _ _
      | exact impl_TicksToRest.mono _ _
      | exact laws_mText.mono _ _ _
      | exact laws_mTexts.mono _ _ _
      | exact spec_CountByTicks.mono _ _ _
      | exact spec_DrawRowsBefore.mono _ _
      | exact spec_FirstLongest.mono _ _
      | exact spec_HasBefore.mono _ _
      | exact spec_LongestTicks.mono _ _
      | exact spec_RowsBefore.mono _ _
      | exact spec_SumOfTicks.mono _ _
      | exact LeO.none _
      | refine LeO.ite ?_ ?_
      | refine LeO.bind ?_ (fun _ => ?_)
    · intro y0 y1 y2 y3
      unfold laws_FnRowsBefore.j0
      repeat' first
      | (with_reducible exact ih0 _)
      | (with_reducible exact ih1 _ _ _ _ _ _)
      | (with_reducible exact ih2 _ _ _ _ _ _ _ _ _)
      | (with_reducible exact ih3 _ _ _ _)
      | (with_reducible exact ih4 _ _ _ _ _ _)
      | (with_reducible exact impl_CountByTicks.mono _ _ _)
      | (with_reducible exact impl_FirstLongest.mono _ _)
      | (with_reducible exact impl_HasBefore.mono _ _)
      | (with_reducible exact impl_LongestTicks.mono _ _)
      | (with_reducible exact impl_RowsBefore.mono _ _)
      | (with_reducible exact impl_SumOfTicks.mono _ _)
      | (with_reducible exact impl_TicksToRest.mono _ _)
      | (with_reducible exact laws_mText.mono _ _ _)
      | (with_reducible exact laws_mTexts.mono _ _ _)
      | (with_reducible exact spec_CountByTicks.mono _ _ _)
      | (with_reducible exact spec_DrawRowsBefore.mono _ _)
      | (with_reducible exact spec_FirstLongest.mono _ _)
      | (with_reducible exact spec_HasBefore.mono _ _)
      | (with_reducible exact spec_LongestTicks.mono _ _)
      | (with_reducible exact spec_RowsBefore.mono _ _)
      | (with_reducible exact spec_SumOfTicks.mono _ _)
      | (with_reducible exact LeO.refl _)
      | (with_reducible exact LeO.none _)
      | (with_reducible refine LeO.ite ?_ ?_)
      | (with_reducible refine LeO.bind ?_ (fun _ => ?_))
      | exact ih0 _
      | exact ih1 _ _ _ _ _ _
      | exact ih2 _ _ _ _ _ _ _ _ _
      | exact ih3 _ _ _ _
      | exact ih4 _ _ _ _ _ _
      | exact impl_CountByTicks.mono _ _ _
      | exact impl_FirstLongest.mono _ _
      | exact impl_HasBefore.mono _ _
      | exact impl_LongestTicks.mono _ _
      | exact impl_RowsBefore.mono _ _
      | exact impl_SumOfTicks.mono _ _
      | exact impl_TicksToRest.mono _ _
      | exact laws_mText.mono _ _ _
      | exact laws_mTexts.mono _ _ _
      | exact spec_CountByTicks.mono _ _ _
      | exact spec_DrawRowsBefore.mono _ _
      | exact spec_FirstLongest.mono _ _
      | exact spec_HasBefore.mono _ _
      | exact spec_LongestTicks.mono _ _
      | exact spec_RowsBefore.mono _ _
      | exact spec_SumOfTicks.mono _ _
      | exact LeO.none _
      | refine LeO.ite ?_ ?_
      | refine LeO.bind ?_ (fun _ => ?_)
    · intro y0 y1 y2 y3 y4 y5
      unfold laws_FnRowsBefore.l0
      repeat' first
      | (with_reducible exact ih0 _)
      | (with_reducible exact ih1 _ _ _ _ _ _)
      | (with_reducible exact ih2 _ _ _ _ _ _ _ _ _)
      | (with_reducible exact ih3 _ _ _ _)
      | (with_reducible exact ih4 _ _ _ _ _ _)
      | (with_reducible exact impl_CountByTicks.mono _ _ _)
      | (with_reducible exact impl_FirstLongest.mono _ _)
      | (with_reducible exact impl_HasBefore.mono _ _)
      | (with_reducible exact impl_LongestTicks.mono _ _)
      | (with_reducible exact impl_RowsBefore.mono _ _)
      | (with_reducible exact impl_SumOfTicks.mono _ _)
      | (with_reducible exact impl_TicksToRest.mono _ _)
      | (with_reducible exact laws_mText.mono _ _ _)
      | (with_reducible exact laws_mTexts.mono _ _ _)
      | (with_reducible exact spec_CountByTicks.mono _ _ _)
      | (with_reducible exact spec_DrawRowsBefore.mono _ _)
      | (with_reducible exact spec_FirstLongest.mono _ _)
      | (with_reducible exact spec_HasBefore.mono _ _)
      | (with_reducible exact spec_LongestTicks.mono _ _)
      | (with_reducible exact spec_RowsBefore.mono _ _)
      | (with_reducible exact spec_SumOfTicks.mono _ _)
      | (with_reducible exact LeO.refl _)
      | (with_reducible exact LeO.none _)
      | (with_reducible refine LeO.ite ?_ ?_)
      | (with_reducible refine LeO.bind ?_ (fun _ => ?_))
      | exact ih0 _
      | exact ih1 _ _ _ _ _ _
      | exact ih2 _ _ _ _ _ _ _ _ _
      | exact ih3 _ _ _ _
      | exact ih4 _ _ _ _ _ _
      | exact impl_CountByTicks.mono _ _ _
      | exact impl_FirstLongest.mono _ _
      | exact impl_HasBefore.mono _ _
      | exact impl_LongestTicks.mono _ _
      | exact impl_RowsBefore.mono _ _
      | exact impl_SumOfTicks.mono _ _
      | exact impl_TicksToRest.mono _ _
      | exact laws_mText.mono _ _ _
      | exact laws_mTexts.mono _ _ _
      | exact spec_CountByTicks.mono _ _ _
      | exact spec_DrawRowsBefore.mono _ _
      | exact spec_FirstLongest.mono _ _
      | exact spec_HasBefore.mono _ _
      | exact spec_LongestTicks.mono _ _
      | exact spec_RowsBefore.mono _ _
      | exact spec_SumOfTicks.mono _ _
      | exact LeO.none _
      | refine LeO.ite ?_ ?_
      | refine LeO.bind ?_ (fun _ => ?_)
theorem laws_FnRowsBefore.mono : ∀ a0 a1 k, LeO (laws_FnRowsBefore.f k a0 a1) (laws_FnRowsBefore.f (k + 1) a0 a1) := by
  intro a0 a1 k
  obtain ⟨ih0, ih1, ih2, ih3, ih4⟩ := laws_FnRowsBefore.mono_l k
  unfold laws_FnRowsBefore.f
  repeat' first
      | (with_reducible exact ih0 _)
      | (with_reducible exact ih1 _ _ _ _ _ _)
      | (with_reducible exact ih2 _ _ _ _ _ _ _ _ _)
      | (with_reducible exact ih3 _ _ _ _)
      | (with_reducible exact ih4 _ _ _ _ _ _)
      | (with_reducible exact impl_CountByTicks.mono _ _ _)
      | (with_reducible exact impl_FirstLongest.mono _ _)
      | (with_reducible exact impl_HasBefore.mono _ _)
      | (with_reducible exact impl_LongestTicks.mono _ _)
      | (with_reducible exact impl_RowsBefore.mono _ _)
      | (with_reducible exact impl_SumOfTicks.mono _ _)
      | (with_reducible exact impl_TicksToRest.mono _ _)
      | (with_reducible exact laws_mText.mono _ _ _)
      | (with_reducible exact laws_mTexts.mono _ _ _)
      | (with_reducible exact spec_CountByTicks.mono _ _ _)
      | (with_reducible exact spec_DrawRowsBefore.mono _ _)
      | (with_reducible exact spec_FirstLongest.mono _ _)
      | (with_reducible exact spec_HasBefore.mono _ _)
      | (with_reducible exact spec_LongestTicks.mono _ _)
      | (with_reducible exact spec_RowsBefore.mono _ _)
      | (with_reducible exact spec_SumOfTicks.mono _ _)
      | (with_reducible exact LeO.refl _)
      | (with_reducible exact LeO.none _)
      | (with_reducible refine LeO.ite ?_ ?_)
      | (with_reducible refine LeO.bind ?_ (fun _ => ?_))
      | exact ih0 _
      | exact ih1 _ _ _ _ _ _
      | exact ih2 _ _ _ _ _ _ _ _ _
      | exact ih3 _ _ _ _
      | exact ih4 _ _ _ _ _ _
      | exact impl_CountByTicks.mono _ _ _
      | exact impl_FirstLongest.mono _ _
      | exact impl_HasBefore.mono _ _
      | exact impl_LongestTicks.mono _ _
      | exact impl_RowsBefore.mono _ _
      | exact impl_SumOfTicks.mono _ _
      | exact impl_TicksToRest.mono _ _
      | exact laws_mText.mono _ _ _
      | exact laws_mTexts.mono _ _ _
      | exact spec_CountByTicks.mono _ _ _
      | exact spec_DrawRowsBefore.mono _ _
      | exact spec_FirstLongest.mono _ _
      | exact spec_HasBefore.mono _ _
      | exact spec_LongestTicks.mono _ _
      | exact spec_RowsBefore.mono _ _
      | exact spec_SumOfTicks.mono _ _
      | exact LeO.none _
      | refine LeO.ite ?_ ?_
      | refine LeO.bind ?_ (fun _ => ?_)
set_option maxHeartbeats 80000000 in
set_option maxRecDepth 100000 in
theorem laws_FnRowsBefore.calls (k : Nat) (A0 : Option Addr) (c0 : Nat) (l0 : List Int) (A1 : Option Addr) (c1 : Nat) (l1 : List Int) (r : Bool) (w : World) (hm : Dr.Tab w) (hr0 : Kd.C (Kd.int .u8) w A0 l0.length l0) (hc0 : l0.length ≤ c0) (hr1 : Kd.C (Kd.int .u8) w A1 l1.length l1) (hc1 : l1.length ≤ c1) (hrt : r = true) (h : laws_FnRowsBefore.f k l0 l1 = some r) :
  Calls Tryd.prog 3 #[.slice A0 l0.length c0, .slice A1 l1.length c1] w fun e w' => e = .returned (.bool r) ∧ Below w.heap.size w w' := by
 have HR0 := Aside0.mk hr0
 have HC0 := Aside0.mk hc0
 clear hr0 hc0
 have HR1 := Aside0.mk hr1
 have HC1 := Aside0.mk hc1
 clear hr1 hc1
 have HB := Aside0.mk (Below.refl w.heap.size w)
 have HRT := Aside0.mk hrt
 clear hrt
 have HMM := Aside0.mk hm
 clear hm
 unfold laws_FnRowsBefore.f at h
 have H := h
 clear h
 replace H := Option.bind_eq_some_iff.mp H
 obtain ⟨t314, A30, H⟩ := H
 (try dsimp only at H)
 have A3 := Aside0.mk A30
 clear A30
 by_cases c4 : t314 = true
 ·subst c4
  rw [if_pos rfl] at H
  obtain rfl := Option.some.inj H
  go_enter Tryd.func3, Tryd.ntmps3
  go_wp2_with (first | ((with_reducible refine gate_callee (f := 4) rfl ?_); refine gl (some 53) Tryd.func4 #[.slice A0 l0.length c0, .slice A1 l1.length c1] ?_; (with_reducible refine (laws_big.calls _ _ l0 _ _ l1 true _ ?side1 ?side2 ?side3 ?side4 A3.out).mono ?_); (case side1 => repeat (first | exact HR0.out | (with_reducible refine Kd.C_alloc ?_ _) | (with_reducible refine Kd.C_drewN ?_ _) | (with_reducible refine Kd.C_drew ?_))); (case side2 => exact HC0.out); (case side3 => repeat (first | exact HR1.out | (with_reducible refine Kd.C_alloc ?_ _) | (with_reducible refine Kd.C_drewN ?_ _) | (with_reducible refine Kd.C_drew ?_))); (case side4 => exact HC1.out); rintro e w' ⟨rfl, ⟨nd, rfl⟩⟩; refine ⟨_, rfl, ?_⟩))
  go_ret
  exact ⟨rs, bw⟩
 ·replace c4 := Bool.eq_false_iff.mpr c4
  subst c4
  rw [if_neg (show ¬ (false = true) by decide)] at H
  replace H := Option.bind_eq_some_iff.mp H
  obtain ⟨t315, A50, H⟩ := H
  (try dsimp only at H)
  have A5 := Aside0.mk A50
  clear A50
  replace H := Option.bind_eq_some_iff.mp H
  obtain ⟨⟨t316, t317⟩, A60, H⟩ := H
  (try dsimp only at H)
  have A6 := Aside0.mk A60
  clear A60
  replace H := Option.bind_eq_some_iff.mp H
  obtain ⟨⟨t320, t321⟩, A70, H⟩ := H
  (try dsimp only at H)
  have A7 := Aside0.mk A70
  clear A70
  replace H := Option.bind_eq_some_iff.mp H
  obtain ⟨⟨t324, t325⟩, A80, H⟩ := H
  (try dsimp only at H)
  have A8 := Aside0.mk A80
  clear A80
  replace H := Option.bind_eq_some_iff.mp H
  obtain ⟨⟨t326, t327⟩, A90, H⟩ := H
  (try dsimp only at H)
  have A9 := Aside0.mk A90
  clear A90
  by_cases c10 : (t317 != t321) = true
  ·rw [if_pos c10] at H
   exact absurd (Option.some.inj H) (by rw [HRT.out]; decide)
  ·rw [if_neg c10] at H
   have c10b0 : (t317 != t321) = false := by simpa using c10
   (try (have c10b1 : decide (t317 = t321) = true := by simpa using c10))
   (try (have c10b2 : (t317 == t321) = true := by simpa using c10))
   clear c10
   replace H := Option.bind_eq_some_iff.mp H
   obtain ⟨t328, A110, H⟩ := H
   (try dsimp only at H)
   have A11 := Aside0.mk A110
   clear A110
   by_cases c12 : t328 = true
   ·subst c12
    rw [if_pos rfl] at H
    by_cases c13 : (t325 != t327) = true
    ·rw [if_pos c13] at H
     exact absurd (Option.some.inj H) (by rw [HRT.out]; decide)
    ·rw [if_neg c13] at H
     have c13b0 : (t325 != t327) = false := by simpa using c13
     (try (have c13b1 : decide (t325 = t327) = true := by simpa using c13))
     (try (have c13b2 : (t325 == t327) = true := by simpa using c13))
     clear c13
     by_cases c14 : (t324 != t326) = true
     ·rw [if_pos c14] at H
      exact absurd (Option.some.inj H) (by rw [HRT.out]; decide)
     ·rw [if_neg c14] at H
      have c14b0 : (t324 != t326) = false := by simpa using c14
      (try (have c14b1 : decide (t324 = t326) = true := by simpa using c14))
      (try (have c14b2 : (t324 == t326) = true := by simpa using c14))
      clear c14
      by_cases c15 : (t325 != t317) = true
      ·rw [if_pos c15] at H
       exact absurd (Option.some.inj H) (by rw [HRT.out]; decide)
      ·rw [if_neg c15] at H
       have c15b0 : (t325 != t317) = false := by simpa using c15
       (try (have c15b1 : decide (t325 = t317) = true := by simpa using c15))
       (try (have c15b2 : (t325 == t317) = true := by simpa using c15))
       clear c15
       have HC16 := Aside0.mk H
       clear H
       go_enter Tryd.func3, Tryd.ntmps3
       go_upto_if 100 with (first | ((with_reducible refine gate_callee (f := 4) rfl ?_); refine gl (some 53) Tryd.func4 #[.slice A0 l0.length c0, .slice A1 l1.length c1] ?_; (with_reducible refine (laws_big.calls _ _ l0 _ _ l1 false _ ?side1 ?side2 ?side3 ?side4 A3.out).mono ?_); (case side1 => repeat (first | exact HR0.out | (with_reducible refine Kd.C_alloc ?_ _) | (with_reducible refine Kd.C_drewN ?_ _) | (with_reducible refine Kd.C_drew ?_))); (case side2 => exact HC0.out); (case side3 => repeat (first | exact HR1.out | (with_reducible refine Kd.C_alloc ?_ _) | (with_reducible refine Kd.C_drewN ?_ _) | (with_reducible refine Kd.C_drew ?_))); (case side4 => exact HC1.out); rintro e w' ⟨rfl, ⟨nd, rfl⟩⟩; refine ⟨_, rfl, ?_⟩) | ((with_reducible refine gate_callee (f := 5) rfl ?_); refine gl (some 55) Tryd.func5 #[.slice A0 l0.length c0] ?_; (with_reducible refine (spec_DrawRowsBefore.calls k _ _ l0 t315 _ ?side1 ?side2 A5.out).mono ?_); (case side1 => repeat (first | exact HR0.out | (with_reducible refine Kd.C_alloc ?_ _) | (with_reducible refine Kd.C_drewN ?_ _) | (with_reducible refine Kd.C_drew ?_))); (case side2 => exact HC0.out); rintro e w17 ⟨rfl, hb⟩; refine ⟨_, rfl, ?_⟩; replace HB := bs hb; (try clear hb)) | ((with_reducible refine gate_callee (f := 6) rfl ?_); refine gl (some 58) Tryd.func6 #[.string t315] ?_; (with_reducible refine (impl_RowsBefore.calls k t315 t316 t317 _ ?side1 A6.out).mono ?_); (case side1 => exact Dr.mm HMM); rintro e w18 ⟨v318, rfl, ho0, hb⟩; refine ⟨_, rfl, ?_⟩; have HO319 := Aside0.mk (Kd.R_lower ho0 (below_size bw)); replace HB := bs hb; (try clear hb); (try clear ho0)) | ((with_reducible refine gate_callee (f := 7) rfl ?_); refine gl (some 63) Tryd.func7 #[.string t315] ?_; (with_reducible refine (spec_RowsBefore.calls k t315 t320 t321 _ A7.out).mono ?_); rintro e w19 ⟨v322, rfl, ho0, hb⟩; refine ⟨_, rfl, ?_⟩; have HO323 := Aside0.mk (Kd.R_lower (Kd.R_new' ho0 (Kd.R_lt (pr HO319))) (below_size bw)); replace HO319 := Aside0.mk (Kd.R_elder' (pr HO319) (Kd.R_base ho0) hb); replace HB := bs hb; (try clear hb); (try clear ho0)) | ((with_reducible refine gate_callee (f := 8) rfl ?_); refine gl (some 68) Tryd.func8 #[.string t315] ?_; (with_reducible refine (impl_HasBefore.calls k t315 t324 t325 _ ?side1 A8.out).mono ?_); (case side1 => exact Dr.mm HMM); rintro e w20 ⟨rfl, hb⟩; refine ⟨_, rfl, ?_⟩; replace HO319 := Aside0.mk (Kd.R_below (pr HO319) hb); replace HO323 := Aside0.mk (Kd.R_below (pr HO323) hb); replace HB := bs hb; (try clear hb)) | ((with_reducible refine gate_callee (f := 9) rfl ?_); refine gl (some 73) Tryd.func9 #[.string t315] ?_; (with_reducible refine (spec_HasBefore.calls k t315 t326 t327 _ A9.out).mono ?_); rintro e w21 ⟨rfl, hb⟩; refine ⟨_, rfl, ?_⟩; replace HO319 := Aside0.mk (Kd.R_below (pr HO319) hb); replace HO323 := Aside0.mk (Kd.R_below (pr HO323) hb); replace HB := bs hb; (try clear hb); obtain ⟨Ao22, co22, eo22⟩ := Kd.R_slice HO319.out; subst eo22; obtain ⟨Ao23, co23, eo23⟩ := Kd.R_slice HO323.out; subst eo23) | (go_at_call 10; (with_reducible refine (laws_mTexts.calls k _ _ t316 _ _ t320 true _ ?side1 ?side2 ?side3 ?side4 A11.out).mono ?_); (case side1 => repeat (first | exact (Kd.R_reads' HO319.out).2.2 | (with_reducible refine Kd.C_alloc ?_ _) | (with_reducible refine Kd.C_drewN ?_ _) | (with_reducible refine Kd.C_drew ?_))); (case side2 => exact (Kd.R_reads' HO319.out).2.1); (case side3 => repeat (first | exact (Kd.R_reads' HO323.out).2.2 | (with_reducible refine Kd.C_alloc ?_ _) | (with_reducible refine Kd.C_drewN ?_ _) | (with_reducible refine Kd.C_drew ?_))); (case side4 => exact (Kd.R_reads' HO323.out).2.1); rintro e w' ⟨rfl, ⟨nd, rfl⟩⟩))
       (try simp only [Act.put, List.setIfInBounds_toArray, List.set_cons_zero, List.set_cons_succ])
       go_cut [53, 60, 65, 69, 70, 74, 75, 76, 77, 78, 79, 82, 83, 84, 85, 86, 87, 88, 89, 90, 91, 92, 93, 94, 95, 96, 97, 98, 99, 100] from 9999 (fun _ _ _ _ _ _ _ _ _ _ _ _ _ _ _ _ _ _ _ _ _ _ _ _ _ _ _ _ _ _ wc => ∃ (kq : Nat), Aside0 (laws_FnRowsBefore.j2 kq l1 = some r) ∧ Aside0 (kq ≤ k) ∧ Aside0 (Below w.heap.size w wc))
       case first =>
        have H := HC16.out
        clear HC16
        by_cases c24 : t317 = true
        ·subst c24
         rw [if_pos rfl] at H
         replace H := Option.bind_eq_some_iff.mp H
         obtain ⟨⟨t329, t330⟩, A250, H⟩ := H
         (try dsimp only at H)
         have A25 := Aside0.mk A250
         clear A250
         have HC26 := Aside0.mk H
         clear H
         go_upto_region 12 with (first | ((with_reducible refine gate_callee (f := 11) rfl ?_); refine gl (some 103) Tryd.func11 #[.string t315] ?_; (with_reducible refine (impl_IsAtRest.calls t315 t329 t330 _ ?side1 A25.out).mono ?_); (case side1 => exact Dr.mm HMM); rintro e w27 ⟨rfl, hb⟩; refine ⟨_, rfl, ?_⟩; replace HO319 := Aside0.mk (Kd.R_below (pr HO319) hb); replace HO323 := Aside0.mk (Kd.R_below (pr HO323) hb); replace HB := bs hb; (try clear hb)))
         (try simp only [Act.put, List.setIfInBounds_toArray, List.set_cons_zero, List.set_cons_succ])
         go_cut [53, 60, 65, 69, 70, 74, 75, 76, 77, 78, 79, 82, 83, 84, 85, 86, 87, 88, 89, 90, 91, 92, 93, 94, 95, 96, 97, 98, 99, 100, 101, 102, 103, 104, 105, 123] from 9999 (fun _ _ _ _ _ _ _ _ _ _ _ _ _ _ _ _ _ _ _ _ _ _ _ _ _ _ _ _ _ _ _ _ _ _ _ v123 wc => ∃ (kq : Nat) (x123_25 : Bool), v123 = .bool x123_25 ∧ Aside0 (laws_FnRowsBefore.j0 kq l1 t315 t316 x123_25 = some r) ∧ Aside0 (kq ≤ k) ∧ Aside0 (Kd.R Kd.string 9 wc w.heap.size (fun _ => True) (.slice Ao22 t316.length co22) t316) ∧ Aside0 (Below w.heap.size w wc))
         case first =>
          have H := HC26.out
          clear HC26
          by_cases c28 : (t324 != (decide ((t316.length : Int) > 0))) = true
          ·rw [if_pos c28] at H
           exact absurd (Option.some.inj H) (by rw [HRT.out]; decide)
          ·rw [if_neg c28] at H
           have c28b0 : (t324 != (decide ((t316.length : Int) > 0))) = false := by simpa using c28
           (try (have c28b1 : (t324 != (decide (0 < t316.length))) = false := by simpa using c28))
           (try (have c28b2 : decide (t324 = (decide (0 < t316.length))) = true := by simpa using c28))
           (try (have c28b3 : (t324 = (decide (0 < t316.length))) = True := eq_true (by simpa using c28)))
           (try (have c28b4 : decide (t324 = (decide ((t316.length : Int) > 0))) = true := by simpa using c28))
           (try (have c28b5 : (t324 == (decide ((t316.length : Int) > 0))) = true := by simpa using c28))
           clear c28
           (first | rw [c28b0] | rw [@decide_eq_true _ _ (of_decide_eq_true c28b1)] | rw [@decide_eq_false _ _ (of_decide_eq_false c28b1)] | (simp only [i64_w, i32_w]; rw [c28b0]) | skip)
           by_cases c29 : t330 = true
           ·subst c29
            rw [if_pos rfl] at H
            by_cases c30 : t329 = true
            ·subst c30
             rw [if_pos rfl] at H
             replace H := Option.bind_eq_some_iff.mp H
             obtain ⟨t331, A310, H⟩ := H
             (try dsimp only at H)
             have A31 := Aside0.mk A310
             clear A310
             have H' := Aside0.mk H
             clear H
             go_wp2_with (first | (go_at_call 12; (with_reducible refine (laws_mText.calls k _ _ t316 t315 t331 _ ?side1 ?side2 A31.out).mono ?_); (case side1 => repeat (first | exact (Kd.R_reads' HO319.out).2.2 | (with_reducible refine Kd.C_alloc ?_ _) | (with_reducible refine Kd.C_drewN ?_ _) | (with_reducible refine Kd.C_drew ?_))); (case side2 => exact (Kd.R_reads' HO319.out).2.1); rintro e w' ⟨rfl, ⟨nd, rfl⟩⟩))
             go_meet
             case rel => exact ⟨_, (!t331), (rs), H', ⟨by first | omega | exact Nat.le_refl _⟩, ⟨by (with_reducible repeat (first | apply Kd.R_alloc | apply Kd.R_drewN | apply Kd.R_drew)); exact Kd.R_mono HO319.out (fun _ hk => trivial)⟩, ⟨bw⟩⟩
            ·replace c30 := Bool.eq_false_iff.mpr c30
             subst c30
             rw [if_neg (show ¬ (false = true) by decide)] at H
             have H' := Aside0.mk H
             clear H
             go_wp2
             go_meet
             case rel => exact ⟨_, (false), (rs), H', ⟨by first | omega | exact Nat.le_refl _⟩, ⟨by (with_reducible repeat (first | apply Kd.R_alloc | apply Kd.R_drewN | apply Kd.R_drew)); exact Kd.R_mono HO319.out (fun _ hk => trivial)⟩, ⟨bw⟩⟩
           ·replace c29 := Bool.eq_false_iff.mpr c29
            subst c29
            rw [if_neg (show ¬ (false = true) by decide)] at H
            exact absurd (Option.some.inj H) (by rw [HRT.out]; decide)
         case rest =>
          clear HC26
          try clear c1
          try clear c2
          try clear p2
          try clear c3
          try clear c4
          try clear c5
          try clear c6
          try clear c7
          try clear c8
          try clear c9
          try clear c10
          try clear c10b0
          try clear c10b1
          try clear c10b2
          try clear c11
          try clear c12
          try clear c13
          try clear c13b0
          try clear c13b1
          try clear c13b2
          try clear c14
          try clear c14b0
          try clear c14b1
          try clear c14b2
          try clear c15
          try clear c15b0
          try clear c15b1
          try clear c15b2
          try clear c24
          try clear c28
          try clear c28b0
          try clear c28b1
          try clear c28b2
          try clear c29
          try clear c30
          obtain ⟨kq, x123_25, rfl, HA, HJ25, HO_6, HB⟩ := hcut
          cases kq with
          | zero => exact absurd HA.out (by simp [laws_FnRowsBefore.j0])
          | succ kj25 =>
           have H := HA.out
           clear HA
           simp only [laws_FnRowsBefore.j0] at H
           by_cases c32 : x123_25 = true
           ·subst c32
            rw [if_pos rfl] at H
            exact absurd (Option.some.inj H) (by rw [HRT.out]; decide)
           ·replace c32 := Bool.eq_false_iff.mpr c32
            subst c32
            rw [if_neg (show ¬ (false = true) by decide)] at H
            have H' := Aside0.mk H
            clear H
            go_wp2
            go_loopg [126] kj25 (fun kq v126 w' => ∃ (x126_2 : Int), v126 = .int .i64 x126_2 ∧ Aside0 (laws_FnRowsBefore.l0 kq l1 t315 t316 t316 (t316.length : Int) x126_2 = some r) ∧ Aside0 (kq ≤ kj25) ∧ Aside0 (Kd.R Kd.string 9 w' w.heap.size (fun _ => True) (.slice Ao22 t316.length co22) t316) ∧ Aside0 (Kd.R Kd.string 9 w' w.heap.size (fun _ => True) (.slice Ao22 t316.length co22) t316) ∧ Aside0 (Below w.heap.size w w'))
            case atStart => exact ⟨(0), (rs), H', ⟨Nat.le_refl _⟩, ⟨pr HO_6⟩, ⟨pr HO_6⟩, ⟨bw⟩⟩
            case round =>
             clear H'
             try clear c1
             try clear c2
             try clear p2
             try clear c3
             try clear c4
             try clear c5
             try clear c6
             try clear c7
             try clear c8
             try clear c9
             try clear c10
             try clear c10b0
             try clear c10b1
             try clear c10b2
             try clear c11
             try clear c12
             try clear c13
             try clear c13b0
             try clear c13b1
             try clear c13b2
             try clear c14
             try clear c14b0
             try clear c14b1
             try clear c14b2
             try clear c15
             try clear c15b0
             try clear c15b1
             try clear c15b2
             try clear c24
             try clear c28
             try clear c28b0
             try clear c28b1
             try clear c28b2
             try clear c29
             try clear c30
             try clear c32
             try clear p2
             obtain ⟨x126_2, rfl, HA, HK2, HO_6, HO_124, HB⟩ := hrel
             cases gk with
             | zero => exact absurd HA.out (by simp [laws_FnRowsBefore.l0])
             | succ k2 =>
              have H := HA.out
              clear HA
              simp only [laws_FnRowsBefore.l0] at H
              by_cases c33 : x126_2 < (t316.length : Int)
              ·rw [if_pos c33] at H
               have c33b0 : decide (x126_2 < (t316.length : Int)) = true := decide_eq_true c33
               clear c33
               by_cases c34 : 0 ≤ x126_2
               ·rw [if_pos c34] at H
                have c34b0 : decide (0 ≤ x126_2) = true := decide_eq_true c34
                clear c34
                by_cases c35 : x126_2 < (t316.length : Int)
                ·rw [if_pos c35] at H
                 have c35b0 : decide (x126_2 < (t316.length : Int)) = true := decide_eq_true c35
                 clear c35
                 replace H := Option.bind_eq_some_iff.mp H
                 obtain ⟨⟨t333, t334⟩, A360, H⟩ := H
                 (try dsimp only at H)
                 have A36 := Aside0.mk A360
                 clear A360
                 by_cases c37 : t334 = true
                 ·subst c37
                  rw [if_pos rfl] at H
                  by_cases c38 : t333.toList = t315.toList
                  ·rw [if_pos c38] at H
                   have c38b0 : (t333.toList == t315.toList) = true := beq_iff_eq.mpr c38
                   have c38b1 : (t333.toList != t315.toList) = false := bne_eq_false_iff_eq.mpr c38
                   clear c38
                   by_cases c39 : x126_2 > 0
                   ·rw [if_pos c39] at H
                    have c39b0 : decide (0 < x126_2) = true := decide_eq_true c39
                    clear c39
                    obtain ⟨ji40, hji40⟩ : ∃ j_ : Int, (wrap64 (x126_2 - 1)) = j_ := ⟨_, rfl⟩
                    replace H : (if 0 ≤ (ji40) then (if (ji40) < (t316.length : Int) then (if ((Op.bytesLess ((rdOf ByteArray.empty t316 (ji40)).toList) ((rdOf ByteArray.empty t316 x126_2).toList)) = true) then (laws_FnRowsBefore.l0 k2 l1 t315 t316 t316 (t316.length : Int) (wrap64 (x126_2 + 1))) else (some false)) else (none)) else (none)) = some r := by first | (rw [hji40] at H; exact H) | (simp only [hji40] at H ⊢; exact H)
                    (try rw [hji40] at A36)
                    have hji40w : (IntKind.i64.wrap (x126_2 - 1)) = ji40 := (i64_w _).trans hji40
                    by_cases c41 : 0 ≤ (ji40)
                    ·rw [if_pos c41] at H
                     have c41b0 : decide (0 ≤ (ji40)) = true := decide_eq_true c41
                     clear c41
                     by_cases c42 : (ji40) < (t316.length : Int)
                     ·rw [if_pos c42] at H
                      have c42b0 : decide ((ji40) < (t316.length : Int)) = true := decide_eq_true c42
                      clear c42
                      by_cases c43 : ((Op.bytesLess ((rdOf ByteArray.empty t316 (ji40)).toList) ((rdOf ByteArray.empty t316 x126_2).toList)) = true)
                      ·rw [if_pos c43] at H
                       have c43b0 : (Op.bytesLess ((rdOf ByteArray.empty t316 (ji40)).toList) ((rdOf ByteArray.empty t316 x126_2).toList)) = true := c43
                       clear c43
                       have H' := Aside0.mk H
                       clear H
                       have p332 : 0 ≤ (x126_2 : Int) := of_decide_eq_true (by first | (with_reducible assumption) | assumption)
                       have q332 : x126_2 < (t316.length : Int) := of_decide_eq_true (by first | (with_reducible assumption) | assumption)
                       obtain ⟨ad332, e332, hx332_0⟩ := Kd.at_string (Kd.R_reads' HO_124.out).2.2 x126_2 p332 q332
                       cases e332
                       replace p332 := eq_true p332
                       replace q332 := eq_true q332
                       go_wp2_with (first | ((with_reducible refine gate_callee (f := 13) rfl ?_); refine gl (some 133) Tryd.func13 #[.string (rdOf ByteArray.empty t316 x126_2)] ?_; (with_reducible refine (impl_TickRow.calls (rdOf ByteArray.empty t316 x126_2) t333 true _ ?side1 A36.out).mono ?_); (case side1 => exact Dr.mm HMM); rintro e w44 ⟨rfl, hb⟩; refine ⟨_, rfl, ?_⟩; replace HO_6 := Aside0.mk (Kd.R_below (pr HO_6) hb); replace HO_124 := Aside0.mk (Kd.R_below (pr HO_124) hb); replace HB := bs hb; (try clear hb); have p335 : 0 ≤ ((ji40) : Int) := of_decide_eq_true (by first | (with_reducible assumption) | assumption); have q335 : (ji40) < (t316.length : Int) := of_decide_eq_true (by first | (with_reducible assumption) | assumption); obtain ⟨ad335, e335, hx335_0⟩ := Kd.at_string (Kd.R_reads' HO_6.out).2.2 (ji40) p335 q335; obtain rfl : ad332 = ad335 := (by injection e335); replace p335 := eq_true p335; replace q335 := eq_true q335))
                       go_roundg k2
                       case measure => have := HJ25.out; have := HK2.out; omega
                       case rel => exact ⟨(wrap64 (x126_2 + 1)), (rs), H', ⟨by have := HJ25.out; have := HK2.out; omega⟩, ⟨pr HO_6⟩, ⟨pr HO_124⟩, ⟨bw⟩⟩
                      ·rw [if_neg c43] at H
                       exact absurd (Option.some.inj H) (by rw [HRT.out]; decide)
                     ·rw [if_neg c42] at H
                      exact absurd H (by simp)
                    ·rw [if_neg c41] at H
                     exact absurd H (by simp)
                   ·rw [if_neg c39] at H
                    have c39b0 : decide (0 < x126_2) = false := decide_eq_false c39
                    clear c39
                    have H' := Aside0.mk H
                    clear H
                    have p332 : 0 ≤ (x126_2 : Int) := of_decide_eq_true (by first | (with_reducible assumption) | assumption)
                    have q332 : x126_2 < (t316.length : Int) := of_decide_eq_true (by first | (with_reducible assumption) | assumption)
                    obtain ⟨ad332, e332, hx332_0⟩ := Kd.at_string (Kd.R_reads' HO_124.out).2.2 x126_2 p332 q332
                    cases e332
                    replace p332 := eq_true p332
                    replace q332 := eq_true q332
                    go_wp2_with (first | ((with_reducible refine gate_callee (f := 13) rfl ?_); refine gl (some 133) Tryd.func13 #[.string (rdOf ByteArray.empty t316 x126_2)] ?_; (with_reducible refine (impl_TickRow.calls (rdOf ByteArray.empty t316 x126_2) t333 true _ ?side1 A36.out).mono ?_); (case side1 => exact Dr.mm HMM); rintro e w45 ⟨rfl, hb⟩; refine ⟨_, rfl, ?_⟩; replace HO_6 := Aside0.mk (Kd.R_below (pr HO_6) hb); replace HO_124 := Aside0.mk (Kd.R_below (pr HO_124) hb); replace HB := bs hb; (try clear hb)))
                    go_roundg k2
                    case measure => have := HJ25.out; have := HK2.out; omega
                    case rel => exact ⟨(wrap64 (x126_2 + 1)), (rs), H', ⟨by have := HJ25.out; have := HK2.out; omega⟩, ⟨pr HO_6⟩, ⟨pr HO_124⟩, ⟨bw⟩⟩
                  ·rw [if_neg c38] at H
                   exact absurd (Option.some.inj H) (by rw [HRT.out]; decide)
                 ·replace c37 := Bool.eq_false_iff.mpr c37
                  subst c37
                  rw [if_neg (show ¬ (false = true) by decide)] at H
                  exact absurd (Option.some.inj H) (by rw [HRT.out]; decide)
                ·rw [if_neg c35] at H
                 exact absurd H (by simp)
               ·rw [if_neg c34] at H
                exact absurd H (by simp)
              ·rw [if_neg c33] at H
               have c33b0 : decide (x126_2 < (t316.length : Int)) = false := decide_eq_false c33
               clear c33
               have H' := Aside0.mk H
               clear H
               go_wp2
               go_meet
               case rel => exact ⟨_, H', ⟨by have := HJ25.out; have := HK2.out; first | omega | exact Nat.le_refl _⟩, ⟨bw⟩⟩
        ·replace c24 := Bool.eq_false_iff.mpr c24
         subst c24
         rw [if_neg (show ¬ (false = true) by decide)] at H
         have H' := Aside0.mk H
         clear H
         go_wp2
         go_meet
         case rel => exact ⟨_, H', ⟨by first | omega | exact Nat.le_refl _⟩, ⟨bw⟩⟩
       case rest => as_aux_lemma =>
        clear HC16
        try clear c1
        try clear c2
        try clear p2
        try clear c3
        try clear p3
        try clear q3
        try clear hx3
        try clear c4
        try clear c5
        try clear c6
        try clear p6
        try clear c7
        try clear c8
        try clear c9
        try clear c10
        try clear c10b0
        try clear c10b1
        try clear c10b2
        try clear c11
        try clear c12
        try clear c13
        try clear c13b0
        try clear c13b1
        try clear c13b2
        try clear c14
        try clear c14b0
        try clear c14b1
        try clear c14b2
        try clear c15
        try clear c15b0
        try clear c15b1
        try clear c15b2
        try clear c24
        try clear c28
        try clear c28b0
        try clear c28b1
        try clear c28b2
        try clear c29
        try clear c30
        try clear c32
        try clear c33
        try clear c33b0
        try clear p33
        try clear q33
        try clear hx33
        try clear c34
        try clear c34b0
        try clear c35
        try clear c35b0
        try clear c37
        try clear c38
        try clear c38b0
        try clear c38b1
        try clear c39
        try clear c39b0
        try clear c41
        try clear c41b0
        try clear c42
        try clear c42b0
        try clear c43
        try clear c43b0
        try clear hx332_0
        try clear hx335_0
        try clear p2
        try clear p332
        try clear p335
        try clear q332
        try clear q335
        obtain ⟨kq, HA, HJ15, HB⟩ := hcut
        cases kq with
        | zero => exact absurd HA.out (by simp [laws_FnRowsBefore.j2])
        | succ kj15 =>
         have H := HA.out
         clear HA
         simp only [laws_FnRowsBefore.j2] at H
         replace H := Option.bind_eq_some_iff.mp H
         obtain ⟨t336, A460, H⟩ := H
         (try dsimp only at H)
         have A46 := Aside0.mk A460
         clear A460
         replace H := Option.bind_eq_some_iff.mp H
         obtain ⟨⟨t337, t338⟩, A470, H⟩ := H
         (try dsimp only at H)
         have A47 := Aside0.mk A470
         clear A470
         replace H := Option.bind_eq_some_iff.mp H
         obtain ⟨⟨t339, t340⟩, A480, H⟩ := H
         (try dsimp only at H)
         have A48 := Aside0.mk A480
         clear A480
         replace H := Option.bind_eq_some_iff.mp H
         obtain ⟨⟨t341, t342⟩, A490, H⟩ := H
         (try dsimp only at H)
         have A49 := Aside0.mk A490
         clear A490
         replace H := Option.bind_eq_some_iff.mp H
         obtain ⟨⟨t343, t344⟩, A500, H⟩ := H
         (try dsimp only at H)
         have A50 := Aside0.mk A500
         clear A500
         replace H := Option.bind_eq_some_iff.mp H
         obtain ⟨⟨t345, t346⟩, A510, H⟩ := H
         (try dsimp only at H)
         have A51 := Aside0.mk A510
         clear A510
         replace H := Option.bind_eq_some_iff.mp H
         obtain ⟨⟨t347, t348⟩, A520, H⟩ := H
         (try dsimp only at H)
         have A52 := Aside0.mk A520
         clear A520
         replace H := Option.bind_eq_some_iff.mp H
         obtain ⟨⟨t349, t350⟩, A530, H⟩ := H
         (try dsimp only at H)
         have A53 := Aside0.mk A530
         clear A530
         replace H := Option.bind_eq_some_iff.mp H
         obtain ⟨⟨t351, t352⟩, A540, H⟩ := H
         (try dsimp only at H)
         have A54 := Aside0.mk A540
         clear A540
         replace H := Option.bind_eq_some_iff.mp H
         obtain ⟨⟨t353, t354⟩, A550, H⟩ := H
         (try dsimp only at H)
         have A55 := Aside0.mk A550
         clear A550
         replace H := Option.bind_eq_some_iff.mp H
         obtain ⟨t355, A560, H⟩ := H
         (try dsimp only at H)
         have A56 := Aside0.mk A560
         clear A560
         replace H := Option.bind_eq_some_iff.mp H
         obtain ⟨⟨t356, t357⟩, A570, H⟩ := H
         (try dsimp only at H)
         have A57 := Aside0.mk A570
         clear A570
         replace H := Option.bind_eq_some_iff.mp H
         obtain ⟨⟨t358, t359⟩, A580, H⟩ := H
         (try dsimp only at H)
         have A58 := Aside0.mk A580
         clear A580
         have HC59 := Aside0.mk H
         clear H
         go_upto_region 34 with (first | ((with_reducible refine gate_callee (f := 14) rfl ?_); refine gl (some 158) Tryd.func14 #[.slice A1 l1.length c1] ?_; (with_reducible refine (spec_DrawLongestTicks.calls _ _ l1 t336 _ ?side1 ?side2 A46.out).mono ?_); (case side1 => exact cb HR1); (case side2 => exact HC1.out); rintro e w60 ⟨rfl, hb⟩; refine ⟨_, rfl, ?_⟩; replace HB := bs hb; (try clear hb)) | ((with_reducible refine gate_callee (f := 15) rfl ?_); refine gl (some 161) Tryd.func15 #[.int .i64 t336] ?_; (with_reducible refine (impl_LongestTicks.calls kj15 t336 t337 t338 _ ?side1 A47.out).mono ?_); (case side1 => exact Dr.mm HMM); rintro e w61 ⟨rfl, hb⟩; refine ⟨_, rfl, ?_⟩; replace HB := bs hb; (try clear hb)) | ((with_reducible refine gate_callee (f := 16) rfl ?_); refine gl (some 166) Tryd.func16 #[.int .i64 t336] ?_; (with_reducible refine (spec_LongestTicks.calls kj15 t336 t339 t340 _ A48.out).mono ?_); rintro e w62 ⟨rfl, hb⟩; refine ⟨_, rfl, ?_⟩; replace HB := bs hb; (try clear hb)) | ((with_reducible refine gate_callee (f := 17) rfl ?_); refine gl (some 171) Tryd.func17 #[.int .i64 t336] ?_; (with_reducible refine (impl_FirstLongest.calls kj15 t336 t341 t342 _ ?side1 A49.out).mono ?_); (case side1 => exact Dr.mm HMM); rintro e w63 ⟨rfl, hb⟩; refine ⟨_, rfl, ?_⟩; replace HB := bs hb; (try clear hb)) | ((with_reducible refine gate_callee (f := 18) rfl ?_); refine gl (some 176) Tryd.func18 #[.int .i64 t336] ?_; (with_reducible refine (spec_FirstLongest.calls kj15 t336 t343 t344 _ A50.out).mono ?_); rintro e w64 ⟨rfl, hb⟩; refine ⟨_, rfl, ?_⟩; replace HB := bs hb; (try clear hb)) | ((with_reducible refine gate_callee (f := 19) rfl ?_); refine gl (some 181) Tryd.func19 #[.int .i64 t336] ?_; (with_reducible refine (impl_SumOfTicks.calls kj15 t336 t345 t346 _ ?side1 A51.out).mono ?_); (case side1 => exact Dr.mm HMM); rintro e w65 ⟨rfl, hb⟩; refine ⟨_, rfl, ?_⟩; replace HB := bs hb; (try clear hb)) | ((with_reducible refine gate_callee (f := 20) rfl ?_); refine gl (some 186) Tryd.func20 #[.int .i64 t336] ?_; (with_reducible refine (spec_SumOfTicks.calls kj15 t336 t347 t348 _ A52.out).mono ?_); rintro e w66 ⟨rfl, hb⟩; refine ⟨_, rfl, ?_⟩; replace HB := bs hb; (try clear hb)) | ((with_reducible refine gate_callee (f := 21) rfl ?_); refine gl (some 191) Tryd.func21 #[.slice A1 l1.length c1] ?_; (with_reducible refine (spec_DrawCountByTicks.calls _ _ l1 t349 t350 _ ?side1 ?side2 A53.out).mono ?_); (case side1 => exact cb HR1); (case side2 => exact HC1.out); rintro e w67 ⟨rfl, hb⟩; refine ⟨_, rfl, ?_⟩; replace HB := bs hb; (try clear hb)) | ((with_reducible refine gate_callee (f := 22) rfl ?_); refine gl (some 197) Tryd.func22 #[.int .i64 t349, .int .i64 t350] ?_; (with_reducible refine (impl_CountByTicks.calls kj15 t349 t350 t351 t352 _ ?side1 A54.out).mono ?_); (case side1 => exact Dr.mm HMM); rintro e w68 ⟨rfl, hb⟩; refine ⟨_, rfl, ?_⟩; replace HB := bs hb; (try clear hb)) | ((with_reducible refine gate_callee (f := 23) rfl ?_); refine gl (some 203) Tryd.func23 #[.int .i64 t349, .int .i64 t350] ?_; (with_reducible refine (spec_CountByTicks.calls kj15 t349 t350 t353 t354 _ A55.out).mono ?_); rintro e w69 ⟨rfl, hb⟩; refine ⟨_, rfl, ?_⟩; replace HB := bs hb; (try clear hb)) | ((with_reducible refine gate_callee (f := 24) rfl ?_); refine gl (some 207) Tryd.func24 #[.slice A1 l1.length c1] ?_; (with_reducible refine (spec_DrawCountAtRest.calls _ _ l1 t355 _ ?side1 ?side2 A56.out).mono ?_); (case side1 => exact cb HR1); (case side2 => exact HC1.out); rintro e w70 ⟨rfl, hb⟩; refine ⟨_, rfl, ?_⟩; replace HB := bs hb; (try clear hb)) | ((with_reducible refine gate_callee (f := 25) rfl ?_); refine gl (some 210) Tryd.func25 #[.int .i64 t355] ?_; (with_reducible refine (impl_CountAtRest.calls t355 t356 t357 _ A57.out).mono ?_); rintro e w' ⟨rfl, ⟨nd, rfl⟩⟩; refine ⟨_, rfl, ?_⟩) | ((with_reducible refine gate_callee (f := 26) rfl ?_); refine gl (some 215) Tryd.func26 #[.int .i64 t355] ?_; (with_reducible refine (spec_CountAtRest.calls t355 t358 t359 _ A58.out).mono ?_); rintro e w' ⟨rfl, ⟨nd, rfl⟩⟩; refine ⟨_, rfl, ?_⟩))
         (try simp only [Act.put, List.setIfInBounds_toArray, List.set_cons_zero, List.set_cons_succ])
         go_cut [163, 168, 173, 178, 183, 188, 199, 204, 205, 206, 207, 208, 209, 210, 211, 212, 213, 214, 215, 216, 217, 284] from 9999 (fun _ _ _ _ _ _ _ _ _ _ _ _ _ _ _ _ _ _ _ _ _ v284 wc => ∃ (kq : Nat) (x284_58 : Bool), v284 = .bool x284_58 ∧ Aside0 (laws_FnRowsBefore.j3 kq t336 t337 t338 t341 t345 x284_58 = some r) ∧ Aside0 (kq ≤ kj15) ∧ Aside0 (Below w.heap.size w wc))
         case first =>
          have H := HC59.out
          clear HC59
          by_cases c71 : (t338 != t340) = true
          ·rw [if_pos c71] at H
           exact absurd (Option.some.inj H) (by rw [HRT.out]; decide)
          ·rw [if_neg c71] at H
           have c71b0 : (t338 != t340) = false := by simpa using c71
           (try (have c71b1 : decide (t338 = t340) = true := by simpa using c71))
           (try (have c71b2 : (t338 == t340) = true := by simpa using c71))
           clear c71
           (first | rw [c71b0] | rw [@decide_eq_true _ _ (of_decide_eq_true c71b1)] | rw [@decide_eq_false _ _ (of_decide_eq_false c71b1)] | (simp only [i64_w, i32_w]; rw [c71b0]) | skip)
           by_cases c72 : t337 = t339
           ·rw [if_pos c72] at H
            have c72b0 : (t337 == t339) = true := beq_iff_eq.mpr c72
            have c72b1 : (t337 != t339) = false := bne_eq_false_iff_eq.mpr c72
            clear c72
            by_cases c73 : (t342 != t344) = true
            ·rw [if_pos c73] at H
             exact absurd (Option.some.inj H) (by rw [HRT.out]; decide)
            ·rw [if_neg c73] at H
             have c73b0 : (t342 != t344) = false := by simpa using c73
             (try (have c73b1 : decide (t342 = t344) = true := by simpa using c73))
             (try (have c73b2 : (t342 == t344) = true := by simpa using c73))
             clear c73
             by_cases c74 : t341.toList = t343.toList
             ·rw [if_pos c74] at H
              have c74b0 : (t341.toList == t343.toList) = true := beq_iff_eq.mpr c74
              have c74b1 : (t341.toList != t343.toList) = false := bne_eq_false_iff_eq.mpr c74
              clear c74
              by_cases c75 : (t346 != t348) = true
              ·rw [if_pos c75] at H
               exact absurd (Option.some.inj H) (by rw [HRT.out]; decide)
              ·rw [if_neg c75] at H
               have c75b0 : (t346 != t348) = false := by simpa using c75
               (try (have c75b1 : decide (t346 = t348) = true := by simpa using c75))
               (try (have c75b2 : (t346 == t348) = true := by simpa using c75))
               clear c75
               by_cases c76 : t345 = t347
               ·rw [if_pos c76] at H
                have c76b0 : (t345 == t347) = true := beq_iff_eq.mpr c76
                have c76b1 : (t345 != t347) = false := bne_eq_false_iff_eq.mpr c76
                clear c76
                by_cases c77 : (t352 != t354) = true
                ·rw [if_pos c77] at H
                 exact absurd (Option.some.inj H) (by rw [HRT.out]; decide)
                ·rw [if_neg c77] at H
                 have c77b0 : (t352 != t354) = false := by simpa using c77
                 (try (have c77b1 : decide (t352 = t354) = true := by simpa using c77))
                 (try (have c77b2 : (t352 == t354) = true := by simpa using c77))
                 clear c77
                 by_cases c78 : t351 = t353
                 ·rw [if_pos c78] at H
                  have c78b0 : (t351 == t353) = true := beq_iff_eq.mpr c78
                  have c78b1 : (t351 != t353) = false := bne_eq_false_iff_eq.mpr c78
                  clear c78
                  by_cases c79 : (t357 != t359) = true
                  ·rw [if_pos c79] at H
                   exact absurd (Option.some.inj H) (by rw [HRT.out]; decide)
                  ·rw [if_neg c79] at H
                   have c79b0 : (t357 != t359) = false := by simpa using c79
                   (try (have c79b1 : decide (t357 = t359) = true := by simpa using c79))
                   (try (have c79b2 : (t357 == t359) = true := by simpa using c79))
                   clear c79
                   by_cases c80 : t356 = t358
                   ·rw [if_pos c80] at H
                    have c80b0 : (t356 == t358) = true := beq_iff_eq.mpr c80
                    have c80b1 : (t356 != t358) = false := bne_eq_false_iff_eq.mpr c80
                    clear c80
                    by_cases c81 : (t342 != t338) = true
                    ·rw [if_pos c81] at H
                     exact absurd (Option.some.inj H) (by rw [HRT.out]; decide)
                    ·rw [if_neg c81] at H
                     have c81b0 : (t342 != t338) = false := by simpa using c81
                     (try (have c81b1 : decide (t342 = t338) = true := by simpa using c81))
                     (try (have c81b2 : (t342 == t338) = true := by simpa using c81))
                     clear c81
                     by_cases c82 : (t346 != t338) = true
                     ·rw [if_pos c82] at H
                      exact absurd (Option.some.inj H) (by rw [HRT.out]; decide)
                     ·rw [if_neg c82] at H
                      have c82b0 : (t346 != t338) = false := by simpa using c82
                      (try (have c82b1 : decide (t346 = t338) = true := by simpa using c82))
                      (try (have c82b2 : (t346 == t338) = true := by simpa using c82))
                      clear c82
                      by_cases c83 : t357 = true
                      ·subst c83
                       rw [if_pos rfl] at H
                       have H' := Aside0.mk H
                       clear H
                       go_wp2
                       go_meet
                       case rel => exact ⟨_, ((t356 != (wrap64 (t355 + 1)))), (rs), H', ⟨by have := HJ15.out; first | omega | exact Nat.le_refl _⟩, ⟨bw⟩⟩
                      ·replace c83 := Bool.eq_false_iff.mpr c83
                       subst c83
                       rw [if_neg (show ¬ (false = true) by decide)] at H
                       have H' := Aside0.mk H
                       clear H
                       go_wp2
                       go_meet
                       case rel => exact ⟨_, (false), (rs), H', ⟨by have := HJ15.out; first | omega | exact Nat.le_refl _⟩, ⟨bw⟩⟩
                   ·rw [if_neg c80] at H
                    exact absurd (Option.some.inj H) (by rw [HRT.out]; decide)
                 ·rw [if_neg c78] at H
                  exact absurd (Option.some.inj H) (by rw [HRT.out]; decide)
               ·rw [if_neg c76] at H
                exact absurd (Option.some.inj H) (by rw [HRT.out]; decide)
             ·rw [if_neg c74] at H
              exact absurd (Option.some.inj H) (by rw [HRT.out]; decide)
           ·rw [if_neg c72] at H
            exact absurd (Option.some.inj H) (by rw [HRT.out]; decide)
         case rest =>
          clear HC59
          try clear c1
          try clear c2
          try clear p2
          try clear c3
          try clear p3
          try clear q3
          try clear hx3
          try clear c4
          try clear c5
          try clear c6
          try clear p6
          try clear c7
          try clear c8
          try clear c9
          try clear c10
          try clear c10b0
          try clear c10b1
          try clear c10b2
          try clear c11
          try clear c12
          try clear c13
          try clear c13b0
          try clear c13b1
          try clear c13b2
          try clear c14
          try clear c14b0
          try clear c14b1
          try clear c14b2
          try clear c15
          try clear c15b0
          try clear c15b1
          try clear c15b2
          try clear c16
          try clear c17
          try clear c18
          try clear c19
          try clear c20
          try clear c21
          try clear c22
          try clear c23
          try clear c24
          try clear c25
          try clear c26
          try clear c28
          try clear c28b0
          try clear c28b1
          try clear c28b2
          try clear c29
          try clear c30
          try clear c32
          try clear c33
          try clear c33b0
          try clear p33
          try clear q33
          try clear hx33
          try clear c34
          try clear c34b0
          try clear c35
          try clear c35b0
          try clear c37
          try clear c38
          try clear c38b0
          try clear c38b1
          try clear c39
          try clear c39b0
          try clear c41
          try clear c41b0
          try clear c42
          try clear c42b0
          try clear c43
          try clear c43b0
          try clear p64
          try clear c71
          try clear c71b0
          try clear c71b1
          try clear c71b2
          try clear c72
          try clear c72b0
          try clear c72b1
          try clear c73
          try clear c73b0
          try clear c73b1
          try clear c73b2
          try clear c74
          try clear c74b0
          try clear c74b1
          try clear c75
          try clear c75b0
          try clear c75b1
          try clear c75b2
          try clear c76
          try clear c76b0
          try clear c76b1
          try clear c77
          try clear c77b0
          try clear c77b1
          try clear c77b2
          try clear c78
          try clear c78b0
          try clear c78b1
          try clear c79
          try clear c79b0
          try clear c79b1
          try clear c79b2
          try clear c80
          try clear c80b0
          try clear c80b1
          try clear c81
          try clear c81b0
          try clear c81b1
          try clear c81b2
          try clear c82
          try clear c82b0
          try clear c82b1
          try clear c82b2
          try clear c83
          try clear hx332_0
          try clear hx335_0
          try clear p2
          try clear p3
          try clear p33
          try clear p332
          try clear p335
          try clear p6
          try clear q3
          try clear q33
          try clear q332
          try clear q335
          obtain ⟨kq, x284_58, rfl, HA, HJ58, HB⟩ := hcut
          cases kq with
          | zero => exact absurd HA.out (by simp [laws_FnRowsBefore.j3])
          | succ kj58 =>
           have H := HA.out
           clear HA
           simp only [laws_FnRowsBefore.j3] at H
           by_cases c84 : x284_58 = true
           ·subst c84
            rw [if_pos rfl] at H
            exact absurd (Option.some.inj H) (by rw [HRT.out]; decide)
           ·replace c84 := Bool.eq_false_iff.mpr c84
            subst c84
            rw [if_neg (show ¬ (false = true) by decide)] at H
            by_cases c85 : t338 = true
            ·subst c85
             rw [if_pos rfl] at H
             replace H := Option.bind_eq_some_iff.mp H
             obtain ⟨⟨t360, t361⟩, A860, H⟩ := H
             (try dsimp only at H)
             have A86 := Aside0.mk A860
             clear A860
             have H' := Aside0.mk H
             clear H
             go_wp2_with (first | ((with_reducible refine gate_callee (f := 27) rfl ?_); refine gl (some 288) Tryd.func27 #[.string t341] ?_; (with_reducible refine (impl_TicksToRest.calls kj58 t341 t360 t361 _ ?side1 A86.out).mono ?_); (case side1 => exact Dr.mm HMM); rintro e w87 ⟨rfl, hb⟩; refine ⟨_, rfl, ?_⟩; replace HB := bs hb; (try clear hb)))
             go_loopg [46, 47, 48] kj58 (fun kq v46 v47 v48 w' => ∃ (x46_3 : Int) (x47_3 : Int) (x48_3 : Int), v46 = .int .i64 x46_3 ∧ v47 = .int .i64 x47_3 ∧ v48 = .int .i64 x48_3 ∧ Aside0 (laws_FnRowsBefore.l1 kq t336 t337 t341 t345 t360 t361 x46_3 x47_3 x48_3 = some r) ∧ Aside0 (kq ≤ kj58) ∧ Aside0 (Below w.heap.size w w'))
             case atStart => exact ⟨(0), (0), (0), (rs), (rs), (rs), H', ⟨Nat.le_refl _⟩, ⟨bw⟩⟩
             case round =>
              clear H'
              try clear c1
              try clear c2
              try clear p2
              try clear c3
              try clear p3
              try clear q3
              try clear hx3
              try clear c4
              try clear c5
              try clear c6
              try clear p6
              try clear c7
              try clear c8
              try clear c9
              try clear c10
              try clear c10b0
              try clear c10b1
              try clear c10b2
              try clear c11
              try clear c12
              try clear c13
              try clear c13b0
              try clear c13b1
              try clear c13b2
              try clear c14
              try clear c14b0
              try clear c14b1
              try clear c14b2
              try clear c15
              try clear c15b0
              try clear c15b1
              try clear c15b2
              try clear c16
              try clear c17
              try clear c18
              try clear c19
              try clear c20
              try clear c21
              try clear c22
              try clear c23
              try clear c24
              try clear c25
              try clear c26
              try clear c27
              try clear c28
              try clear c28b0
              try clear c28b1
              try clear c28b2
              try clear c29
              try clear c30
              try clear c32
              try clear c33
              try clear c33b0
              try clear p33
              try clear q33
              try clear hx33
              try clear c34
              try clear c34b0
              try clear c35
              try clear c35b0
              try clear c37
              try clear c38
              try clear c38b0
              try clear c38b1
              try clear c39
              try clear c39b0
              try clear c41
              try clear c41b0
              try clear c42
              try clear c42b0
              try clear c43
              try clear c43b0
              try clear p64
              try clear c71
              try clear c71b0
              try clear c71b1
              try clear c71b2
              try clear c72
              try clear c72b0
              try clear c72b1
              try clear c73
              try clear c73b0
              try clear c73b1
              try clear c73b2
              try clear c74
              try clear c74b0
              try clear c74b1
              try clear c75
              try clear c75b0
              try clear c75b1
              try clear c75b2
              try clear c76
              try clear c76b0
              try clear c76b1
              try clear c77
              try clear c77b0
              try clear c77b1
              try clear c77b2
              try clear c78
              try clear c78b0
              try clear c78b1
              try clear c79
              try clear c79b0
              try clear c79b1
              try clear c79b2
              try clear c80
              try clear c80b0
              try clear c80b1
              try clear c81
              try clear c81b0
              try clear c81b1
              try clear c81b2
              try clear c82
              try clear c82b0
              try clear c82b1
              try clear c82b2
              try clear c83
              try clear c84
              try clear c85
              try clear hx332_0
              try clear hx335_0
              try clear p2
              try clear p3
              try clear p33
              try clear p332
              try clear p335
              try clear p6
              try clear p64
              try clear q3
              try clear q33
              try clear q332
              try clear q335
              obtain ⟨x46_3, x47_3, x48_3, rfl, rfl, rfl, HA, HK3, HB⟩ := hrel
              cases gk with
              | zero => exact absurd HA.out (by simp [laws_FnRowsBefore.l1])
              | succ k3 =>
               have H := HA.out
               clear HA
               simp only [laws_FnRowsBefore.l1] at H
               by_cases c88 : x48_3 ≤ t336
               ·rw [if_pos c88] at H
                have c88b0 : decide (x48_3 ≤ t336) = true := decide_eq_true c88
                clear c88
                replace H := Option.bind_eq_some_iff.mp H
                obtain ⟨⟨t362, t363⟩, A890, H⟩ := H
                (try dsimp only at H)
                have A89 := Aside0.mk A890
                clear A890
                by_cases c90 : t363 = true
                ·subst c90
                 rw [if_pos rfl] at H
                 by_cases c91 : x48_3 > t337
                 ·rw [if_pos c91] at H
                  have c91b0 : decide (t337 < x48_3) = true := decide_eq_true c91
                  clear c91
                  by_cases c92 : t362 = 0
                  ·rw [if_pos c92] at H
                   have c92b0 : (t362 == 0) = true := beq_iff_eq.mpr c92
                   have c92b1 : (t362 != 0) = false := bne_eq_false_iff_eq.mpr c92
                   clear c92
                   by_cases c93 : x48_3 = t337
                   ·rw [if_pos c93] at H
                    have c93b0 : (x48_3 == t337) = true := beq_iff_eq.mpr c93
                    have c93b1 : (x48_3 != t337) = false := bne_eq_false_iff_eq.mpr c93
                    clear c93
                    by_cases c94 : t362 < 1
                    ·rw [if_pos c94] at H
                     exact absurd (Option.some.inj H) (by rw [HRT.out]; decide)
                    ·rw [if_neg c94] at H
                     have c94b0 : decide (t362 < 1) = false := decide_eq_false c94
                     clear c94
                     by_cases c95 : x48_3 = 0
                     ·rw [if_pos c95] at H
                      have c95b0 : (x48_3 == 0) = true := beq_iff_eq.mpr c95
                      have c95b1 : (x48_3 != 0) = false := bne_eq_false_iff_eq.mpr c95
                      clear c95
                      by_cases c96 : t362 = (wrap64 (t336 + 1))
                      ·rw [if_pos c96] at H
                       have c96b0 : (t362 == (wrap64 (t336 + 1))) = true := beq_iff_eq.mpr c96
                       have c96b1 : (t362 != (wrap64 (t336 + 1))) = false := bne_eq_false_iff_eq.mpr c96
                       clear c96
                       have H' := Aside0.mk H
                       clear H
                       go_wp2_with (first | ((with_reducible refine gate_callee (f := 22) rfl ?_); refine gl (some 299) Tryd.func22 #[.int .i64 t336, .int .i64 x48_3] ?_; (with_reducible refine (impl_CountByTicks.calls k3 t336 x48_3 t362 true _ ?side1 A89.out).mono ?_); (case side1 => exact Dr.mm HMM); rintro e w97 ⟨rfl, hb⟩; refine ⟨_, rfl, ?_⟩; replace HB := bs hb; (try clear hb)))
                       go_roundg k3
                       case measure => have := HJ15.out; have := HJ58.out; have := HK3.out; omega
                       case rel => exact ⟨(wrap64 (x46_3 + t362)), (wrap64 (x47_3 + (wrap64 (x48_3 * t362)))), (wrap64 (x48_3 + 1)), (rs), (rs), (rs), H', ⟨by have := HJ15.out; have := HJ58.out; have := HK3.out; omega⟩, ⟨bw⟩⟩
                      ·rw [if_neg c96] at H
                       exact absurd (Option.some.inj H) (by rw [HRT.out]; decide)
                     ·rw [if_neg c95] at H
                      have c95b0 : (x48_3 == 0) = false := beq_eq_false_iff_ne.mpr c95
                      have c95b1 : (x48_3 != 0) = true := bne_iff_ne.mpr c95
                      have H' := Aside0.mk H
                      clear H
                      go_wp2_with (first | ((with_reducible refine gate_callee (f := 22) rfl ?_); refine gl (some 299) Tryd.func22 #[.int .i64 t336, .int .i64 x48_3] ?_; (with_reducible refine (impl_CountByTicks.calls k3 t336 x48_3 t362 true _ ?side1 A89.out).mono ?_); (case side1 => exact Dr.mm HMM); rintro e w98 ⟨rfl, hb⟩; refine ⟨_, rfl, ?_⟩; replace HB := bs hb; (try clear hb)))
                      go_roundg k3
                      case measure => have := HJ15.out; have := HJ58.out; have := HK3.out; omega
                      case rel => exact ⟨(wrap64 (x46_3 + t362)), (wrap64 (x47_3 + (wrap64 (x48_3 * t362)))), (wrap64 (x48_3 + 1)), (rs), (rs), (rs), H', ⟨by have := HJ15.out; have := HJ58.out; have := HK3.out; omega⟩, ⟨bw⟩⟩
                   ·rw [if_neg c93] at H
                    have c93b0 : (x48_3 == t337) = false := beq_eq_false_iff_ne.mpr c93
                    have c93b1 : (x48_3 != t337) = true := bne_iff_ne.mpr c93
                    by_cases c99 : x48_3 = 0
                    ·rw [if_pos c99] at H
                     have c99b0 : (x48_3 == 0) = true := beq_iff_eq.mpr c99
                     have c99b1 : (x48_3 != 0) = false := bne_eq_false_iff_eq.mpr c99
                     clear c99
                     by_cases c100 : t362 = (wrap64 (t336 + 1))
                     ·rw [if_pos c100] at H
                      have c100b0 : (t362 == (wrap64 (t336 + 1))) = true := beq_iff_eq.mpr c100
                      have c100b1 : (t362 != (wrap64 (t336 + 1))) = false := bne_eq_false_iff_eq.mpr c100
                      clear c100
                      have H' := Aside0.mk H
                      clear H
                      go_wp2_with (first | ((with_reducible refine gate_callee (f := 22) rfl ?_); refine gl (some 299) Tryd.func22 #[.int .i64 t336, .int .i64 x48_3] ?_; (with_reducible refine (impl_CountByTicks.calls k3 t336 x48_3 t362 true _ ?side1 A89.out).mono ?_); (case side1 => exact Dr.mm HMM); rintro e w101 ⟨rfl, hb⟩; refine ⟨_, rfl, ?_⟩; replace HB := bs hb; (try clear hb)))
                      go_roundg k3
                      case measure => have := HJ15.out; have := HJ58.out; have := HK3.out; omega
                      case rel => exact ⟨(wrap64 (x46_3 + t362)), (wrap64 (x47_3 + (wrap64 (x48_3 * t362)))), (wrap64 (x48_3 + 1)), (rs), (rs), (rs), H', ⟨by have := HJ15.out; have := HJ58.out; have := HK3.out; omega⟩, ⟨bw⟩⟩
                     ·rw [if_neg c100] at H
                      exact absurd (Option.some.inj H) (by rw [HRT.out]; decide)
                    ·rw [if_neg c99] at H
                     have c99b0 : (x48_3 == 0) = false := beq_eq_false_iff_ne.mpr c99
                     have c99b1 : (x48_3 != 0) = true := bne_iff_ne.mpr c99
                     have H' := Aside0.mk H
                     clear H
                     go_wp2_with (first | ((with_reducible refine gate_callee (f := 22) rfl ?_); refine gl (some 299) Tryd.func22 #[.int .i64 t336, .int .i64 x48_3] ?_; (with_reducible refine (impl_CountByTicks.calls k3 t336 x48_3 t362 true _ ?side1 A89.out).mono ?_); (case side1 => exact Dr.mm HMM); rintro e w102 ⟨rfl, hb⟩; refine ⟨_, rfl, ?_⟩; replace HB := bs hb; (try clear hb)))
                     go_roundg k3
                     case measure => have := HJ15.out; have := HJ58.out; have := HK3.out; omega
                     case rel => exact ⟨(wrap64 (x46_3 + t362)), (wrap64 (x47_3 + (wrap64 (x48_3 * t362)))), (wrap64 (x48_3 + 1)), (rs), (rs), (rs), H', ⟨by have := HJ15.out; have := HJ58.out; have := HK3.out; omega⟩, ⟨bw⟩⟩
                  ·rw [if_neg c92] at H
                   exact absurd (Option.some.inj H) (by rw [HRT.out]; decide)
                 ·rw [if_neg c91] at H
                  have c91b0 : decide (t337 < x48_3) = false := decide_eq_false c91
                  clear c91
                  by_cases c103 : x48_3 = t337
                  ·rw [if_pos c103] at H
                   have c103b0 : (x48_3 == t337) = true := beq_iff_eq.mpr c103
                   have c103b1 : (x48_3 != t337) = false := bne_eq_false_iff_eq.mpr c103
                   clear c103
                   by_cases c104 : t362 < 1
                   ·rw [if_pos c104] at H
                    exact absurd (Option.some.inj H) (by rw [HRT.out]; decide)
                   ·rw [if_neg c104] at H
                    have c104b0 : decide (t362 < 1) = false := decide_eq_false c104
                    clear c104
                    by_cases c105 : x48_3 = 0
                    ·rw [if_pos c105] at H
                     have c105b0 : (x48_3 == 0) = true := beq_iff_eq.mpr c105
                     have c105b1 : (x48_3 != 0) = false := bne_eq_false_iff_eq.mpr c105
                     clear c105
                     by_cases c106 : t362 = (wrap64 (t336 + 1))
                     ·rw [if_pos c106] at H
                      have c106b0 : (t362 == (wrap64 (t336 + 1))) = true := beq_iff_eq.mpr c106
                      have c106b1 : (t362 != (wrap64 (t336 + 1))) = false := bne_eq_false_iff_eq.mpr c106
                      clear c106
                      have H' := Aside0.mk H
                      clear H
                      go_wp2_with (first | ((with_reducible refine gate_callee (f := 22) rfl ?_); refine gl (some 299) Tryd.func22 #[.int .i64 t336, .int .i64 x48_3] ?_; (with_reducible refine (impl_CountByTicks.calls k3 t336 x48_3 t362 true _ ?side1 A89.out).mono ?_); (case side1 => exact Dr.mm HMM); rintro e w107 ⟨rfl, hb⟩; refine ⟨_, rfl, ?_⟩; replace HB := bs hb; (try clear hb)))
                      go_roundg k3
                      case measure => have := HJ15.out; have := HJ58.out; have := HK3.out; omega
                      case rel => exact ⟨(wrap64 (x46_3 + t362)), (wrap64 (x47_3 + (wrap64 (x48_3 * t362)))), (wrap64 (x48_3 + 1)), (rs), (rs), (rs), H', ⟨by have := HJ15.out; have := HJ58.out; have := HK3.out; omega⟩, ⟨bw⟩⟩
                     ·rw [if_neg c106] at H
                      exact absurd (Option.some.inj H) (by rw [HRT.out]; decide)
                    ·rw [if_neg c105] at H
                     have c105b0 : (x48_3 == 0) = false := beq_eq_false_iff_ne.mpr c105
                     have c105b1 : (x48_3 != 0) = true := bne_iff_ne.mpr c105
                     have H' := Aside0.mk H
                     clear H
                     go_wp2_with (first | ((with_reducible refine gate_callee (f := 22) rfl ?_); refine gl (some 299) Tryd.func22 #[.int .i64 t336, .int .i64 x48_3] ?_; (with_reducible refine (impl_CountByTicks.calls k3 t336 x48_3 t362 true _ ?side1 A89.out).mono ?_); (case side1 => exact Dr.mm HMM); rintro e w108 ⟨rfl, hb⟩; refine ⟨_, rfl, ?_⟩; replace HB := bs hb; (try clear hb)))
                     go_roundg k3
                     case measure => have := HJ15.out; have := HJ58.out; have := HK3.out; omega
                     case rel => exact ⟨(wrap64 (x46_3 + t362)), (wrap64 (x47_3 + (wrap64 (x48_3 * t362)))), (wrap64 (x48_3 + 1)), (rs), (rs), (rs), H', ⟨by have := HJ15.out; have := HJ58.out; have := HK3.out; omega⟩, ⟨bw⟩⟩
                  ·rw [if_neg c103] at H
                   have c103b0 : (x48_3 == t337) = false := beq_eq_false_iff_ne.mpr c103
                   have c103b1 : (x48_3 != t337) = true := bne_iff_ne.mpr c103
                   by_cases c109 : x48_3 = 0
                   ·rw [if_pos c109] at H
                    have c109b0 : (x48_3 == 0) = true := beq_iff_eq.mpr c109
                    have c109b1 : (x48_3 != 0) = false := bne_eq_false_iff_eq.mpr c109
                    clear c109
                    by_cases c110 : t362 = (wrap64 (t336 + 1))
                    ·rw [if_pos c110] at H
                     have c110b0 : (t362 == (wrap64 (t336 + 1))) = true := beq_iff_eq.mpr c110
                     have c110b1 : (t362 != (wrap64 (t336 + 1))) = false := bne_eq_false_iff_eq.mpr c110
                     clear c110
                     have H' := Aside0.mk H
                     clear H
                     go_wp2_with (first | ((with_reducible refine gate_callee (f := 22) rfl ?_); refine gl (some 299) Tryd.func22 #[.int .i64 t336, .int .i64 x48_3] ?_; (with_reducible refine (impl_CountByTicks.calls k3 t336 x48_3 t362 true _ ?side1 A89.out).mono ?_); (case side1 => exact Dr.mm HMM); rintro e w111 ⟨rfl, hb⟩; refine ⟨_, rfl, ?_⟩; replace HB := bs hb; (try clear hb)))
                     go_roundg k3
                     case measure => have := HJ15.out; have := HJ58.out; have := HK3.out; omega
                     case rel => exact ⟨(wrap64 (x46_3 + t362)), (wrap64 (x47_3 + (wrap64 (x48_3 * t362)))), (wrap64 (x48_3 + 1)), (rs), (rs), (rs), H', ⟨by have := HJ15.out; have := HJ58.out; have := HK3.out; omega⟩, ⟨bw⟩⟩
                    ·rw [if_neg c110] at H
                     exact absurd (Option.some.inj H) (by rw [HRT.out]; decide)
                   ·rw [if_neg c109] at H
                    have c109b0 : (x48_3 == 0) = false := beq_eq_false_iff_ne.mpr c109
                    have c109b1 : (x48_3 != 0) = true := bne_iff_ne.mpr c109
                    have H' := Aside0.mk H
                    clear H
                    go_wp2_with (first | ((with_reducible refine gate_callee (f := 22) rfl ?_); refine gl (some 299) Tryd.func22 #[.int .i64 t336, .int .i64 x48_3] ?_; (with_reducible refine (impl_CountByTicks.calls k3 t336 x48_3 t362 true _ ?side1 A89.out).mono ?_); (case side1 => exact Dr.mm HMM); rintro e w112 ⟨rfl, hb⟩; refine ⟨_, rfl, ?_⟩; replace HB := bs hb; (try clear hb)))
                    go_roundg k3
                    case measure => have := HJ15.out; have := HJ58.out; have := HK3.out; omega
                    case rel => exact ⟨(wrap64 (x46_3 + t362)), (wrap64 (x47_3 + (wrap64 (x48_3 * t362)))), (wrap64 (x48_3 + 1)), (rs), (rs), (rs), H', ⟨by have := HJ15.out; have := HJ58.out; have := HK3.out; omega⟩, ⟨bw⟩⟩
                ·replace c90 := Bool.eq_false_iff.mpr c90
                 subst c90
                 rw [if_neg (show ¬ (false = true) by decide)] at H
                 exact absurd (Option.some.inj H) (by rw [HRT.out]; decide)
               ·rw [if_neg c88] at H
                have c88b0 : decide (x48_3 ≤ t336) = false := decide_eq_false c88
                clear c88
                by_cases c113 : t361 = true
                ·subst c113
                 rw [if_pos rfl] at H
                 by_cases c114 : t360 = t337
                 ·rw [if_pos c114] at H
                  have c114b0 : (t360 == t337) = true := beq_iff_eq.mpr c114
                  have c114b1 : (t360 != t337) = false := bne_eq_false_iff_eq.mpr c114
                  clear c114
                  by_cases c115 : (t341.size : Int) = t336
                  ·rw [if_pos c115] at H
                   have c115b0 : ((t341.size : Int) == t336) = true := beq_iff_eq.mpr c115
                   have c115b1 : ((t341.size : Int) != t336) = false := bne_eq_false_iff_eq.mpr c115
                   clear c115
                   by_cases c116 : 0 ≤ t336
                   ·rw [if_pos c116] at H
                    have c116b0 := eq_true c116
                    have c116b1 : decide (0 ≤ t336) = true := decide_eq_true c116
                    clear c116
                    obtain ⟨ji117, hji117⟩ : ∃ j_ : Int, (shl .i64 1 t336) = j_ := ⟨_, rfl⟩
                    replace H : (if x46_3 = (ji117) then (if x47_3 = t345 then (if t337 > t336 then (some false) else (some true)) else (some false)) else (some false)) = some r := by first | (rw [hji117] at H; exact H) | (simp only [hji117] at H ⊢; exact H)
                    have hji117_ : (IntKind.i64.wrap (1 * 2 ^ min t336.toNat 64)) = ji117 := hji117
                    have hji117z : t336 ≤ 64 → (IntKind.i64.wrap (1 * 2 ^ t336.toNat)) = ji117 := shl_small hji117
                    have hji117u : (IntKind.i64.wrap (2 ^ min t336.toNat 64)) = ji117 := by have h_ := hji117_; rw [Int.one_mul] at h_; exact h_
                    have hji117v : t336 ≤ 64 → (IntKind.i64.wrap (2 ^ t336.toNat)) = ji117 := fun hle_ => by have h_ := hji117z hle_; rw [Int.one_mul] at h_; exact h_
                    have hji117y : (wrap64 (1 * 2 ^ min t336.toNat 64)) = ji117 := (i64_w _).symm.trans hji117_
                    have hji117x : t336 ≤ 64 → (wrap64 (1 * 2 ^ t336.toNat)) = ji117 := fun h_ => (i64_w _).symm.trans (hji117z h_)
                    by_cases c118 : x46_3 = (ji117)
                    ·rw [if_pos c118] at H
                     have c118b0 : (x46_3 == (ji117)) = true := beq_iff_eq.mpr c118
                     have c118b1 : (x46_3 != (ji117)) = false := bne_eq_false_iff_eq.mpr c118
                     clear c118
                     by_cases c119 : x47_3 = t345
                     ·rw [if_pos c119] at H
                      have c119b0 : (x47_3 == t345) = true := beq_iff_eq.mpr c119
                      have c119b1 : (x47_3 != t345) = false := bne_eq_false_iff_eq.mpr c119
                      clear c119
                      by_cases c120 : t337 > t336
                      ·rw [if_pos c120] at H
                       exact absurd (Option.some.inj H) (by rw [HRT.out]; decide)
                      ·rw [if_neg c120] at H
                       have c120b0 : decide (t336 < t337) = false := decide_eq_false c120
                       clear c120
                       obtain rfl := Option.some.inj H
                       go_wp2
                       go_ret
                       exact ⟨by first | rfl | (simp [errW_none, errW_some] <;> rfl) | (simp only [← hji117]; first | rfl | (simp [errW_none, errW_some] <;> rfl)) | (simp [*, errW_none, errW_some] <;> rfl), bw⟩
                     ·rw [if_neg c119] at H
                      exact absurd (Option.some.inj H) (by rw [HRT.out]; decide)
                    ·rw [if_neg c118] at H
                     exact absurd (Option.some.inj H) (by rw [HRT.out]; decide)
                   ·rw [if_neg c116] at H
                    exact absurd H (by simp)
                  ·rw [if_neg c115] at H
                   exact absurd (Option.some.inj H) (by rw [HRT.out]; decide)
                 ·rw [if_neg c114] at H
                  exact absurd (Option.some.inj H) (by rw [HRT.out]; decide)
                ·replace c113 := Bool.eq_false_iff.mpr c113
                 subst c113
                 rw [if_neg (show ¬ (false = true) by decide)] at H
                 exact absurd (Option.some.inj H) (by rw [HRT.out]; decide)
            ·replace c85 := Bool.eq_false_iff.mpr c85
             subst c85
             rw [if_neg (show ¬ (false = true) by decide)] at H
             obtain rfl := Option.some.inj H
             go_wp2
             go_ret
             exact ⟨rs, bw⟩
   ·replace c12 := Bool.eq_false_iff.mpr c12
    subst c12
    rw [if_neg (show ¬ (false = true) by decide)] at H
    exact absurd (Option.some.inj H) (by rw [HRT.out]; decide)

end Go.Proofs.YtgfoookdmcffpaaDoor.PFnRowsBefore
