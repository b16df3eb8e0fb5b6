-- Laid by xprint, a program of this session that runs over the kit's print.
import Derived.Test.YteoklfgmdcofcaaDoorPFnOrdersTurnx0
import Derived.Test.YteoklfgmdcofcaaDoorPFnOrdersTurnx1
import Derived.Test.YteoklfgmdcofcaaDoorPFnOrdersTurnx2
import Derived.Test.YteoklfgmdcofcaaDoorPFnOrdersTurnx3
import Derived.Test.YteoklfgmdcofcaaDoorPFnOrdersTurnx4
import Derived.Test.YteoklfgmdcofcaaDoorPFnOrdersTurnx6
import Derived.Test.YteoklfgmdcofcaaDoorPFnOrdersTurnx7
import Derived.Test.YteoklfgmdcofcaaDoorPFnOrdersTurnx8
namespace Go.Proofs.YteoklfgmdcofcaaDoor.PFnOrdersTurn
open Go.RowKit Go.Proofs.YteoklfgmdcofcaaDoorW.PrintWords Go.Proofs.YteoklfgmdcofcaaDoorW.PrintLast Go.Proofs.YteoklfgmdcofcaaDoorW.PrintMore Go.Proofs.YteoklfgmdcofcaaDoor.Sq
attribute [local go_sem] max2_int min2_int max_two min_two max_three min_three max_four min_four   -- for this text's walks alone
set_option linter.unusedVariables false
set_option linter.unusedSimpArgs false

/-! ### laws_FnOrdersTurn: function 3 -/
mutual
def laws_FnOrdersTurn.j1 : Nat → List Int → Option (Bool)
  | 0, _ => none
  | k + 1, x1 => (spec_DrawTurnRun.f k x1).bind fun bt443 => ((impl_TurnRun.f bt443.1 bt443.2.1 bt443.2.2).bind fun bt446 => ((spec_TurnRun.f k bt443.1 bt443.2.1 bt443.2.2).bind fun bt448 => ((spec_DrawTurnFirst.f k x1).bind fun bt450 => ((impl_TurnFirst.f bt450.1 bt450.2).bind fun bt452 => ((spec_TurnFirst.f k bt450.1 bt450.2).bind fun bt454 => ((impl_TurnAround.f bt450.1 bt450.2).bind fun bt456 => ((spec_TurnAround.f k bt450.1 bt450.2).bind fun bt458 => ((spec_DrawPlayRuns.f k x1).bind fun bt460 => ((impl_PlayRuns.f k bt460.1 bt460.2).bind fun bt464 => ((spec_PlayRuns.f k bt460.1 bt460.2).bind fun bt466 => ((spec_DrawMostRuns.f x1).bind fun t468 => ((impl_MostRuns.f t468).bind fun bt469 => ((spec_MostRuns.f t468).bind fun bt471 => (if (bt446.2 != bt448.2) = true then (some false) else (if bt446.1.toList = bt448.1.toList then (if (bt452.2 != bt454.2) = true then (some false) else (if bt452.1.toList = bt454.1.toList then (if (bt456.2 != bt458.2) = true then (some false) else (if bt456.1.toList = bt458.1.toList then (if (bt464.2 != bt466.2) = true then (some false) else (if bt464.1.toList = bt466.1.toList then (if (bt469.2 != bt471.2) = true then (some false) else (if bt469.1 = bt471.1 then (if bt446.2 = true then (laws_FnOrdersTurn.l1 k bt443.1 bt443.2.1 bt443.2.2 bt446.1 bt450.1 bt450.2 bt452.1 bt452.2 bt456.1 bt456.2 bt460.1 bt460.2 bt464.1 bt464.2 0 bt443.1) else (laws_FnOrdersTurn.j3 k bt450.1 bt450.2 bt452.1 bt452.2 bt456.1 bt456.2 bt460.1 bt460.2 bt464.1 bt464.2)) else (some false))) else (some false))) else (some false))) else (some false))) else (some false))))))))))))))))
def laws_FnOrdersTurn.j3 : Nat → ByteArray → Int → ByteArray → Bool → ByteArray → Bool → ByteArray → List (List Int) → ByteArray → Bool → Option (Bool)
  | 0, _, _, _, _, _, _, _, _, _, _ => none
  | k + 1, x43, x44, x45, x46, x49, x50, x53, x54, x55, x56 => if x46 = true then (laws_FnOrdersTurn.l2 k x43 x44 x45 x49 x50 x53 x54 x55 x56 0 x43) else (laws_FnOrdersTurn.j5 k x43 x44 x49 x50 x53 x54 x55 x56)
def laws_FnOrdersTurn.j5 : Nat → ByteArray → Int → ByteArray → Bool → ByteArray → List (List Int) → ByteArray → Bool → Option (Bool)
  | 0, _, _, _, _, _, _, _, _ => none
  | k + 1, x43, x44, x49, x50, x53, x54, x55, x56 => if x50 = true then (laws_FnOrdersTurn.l3 k x43 x44 x49 x53 x54 x55 x56 0 x43) else (laws_FnOrdersTurn.j7 k x53 x54 x55 x56)
def laws_FnOrdersTurn.j7 : Nat → ByteArray → List (List Int) → ByteArray → Bool → Option (Bool)
  | 0, _, _, _, _ => none
  | k + 1, x53, x54, x55, x56 => if x56 = true then (laws_FnOrdersTurn.l4 k x55 x53 x54 (x54.length : Int) 0) else (some true)
def laws_FnOrdersTurn.l4 : Nat → ByteArray → ByteArray → List (List Int) → Int → Int → Option (Bool)
  | 0, _, _, _, _, _ => none
  | k + 1, x55, x67, x486, x487, x488 => if x488 < x487 then (if 0 ≤ x488 then (if x488 < (x486.length : Int) then (if 0 < ((rd_L3 x486 x488).length : Int) then (if 1 < ((rd_L3 x486 x488).length : Int) then ((impl_TurnRun.f x67 (rd (rd_L3 x486 x488) 0) (rd (rd_L3 x486 x488) 1)).bind fun bt479 => (if bt479.2 = true then (laws_FnOrdersTurn.l4 k x55 bt479.1 x486 x487 (wrap64 (x488 + 1))) else (some false))) else (none)) else (none)) else (none)) else (none)) else (some (x67.toList == x55.toList))
def laws_FnOrdersTurn.l3 : Nat → ByteArray → Int → ByteArray → ByteArray → List (List Int) → ByteArray → Bool → Int → ByteArray → Option (Bool)
  | 0, _, _, _, _, _, _, _, _, _ => none
  | k + 1, x43, x44, x49, x53, x54, x55, x56, x476000, x476001 => if x476000 < (x476001.size : Int) then (if 0 ≤ x476000 then (if bt x476001 x476000 < 128 then (if x476000 < (x49.size : Int) then (if x476000 < (x43.size : Int) then (if x476000 ≥ (wrap64 (x44 - 1)) then (if (((bt x49 x476000) != (bt x43 x476000)) != (decide (x476000 ≤ (wrap64 (x44 + 1))))) = true then (some false) else (laws_FnOrdersTurn.l3 k x43 x44 x49 x53 x54 x55 x56 (x476000 + 1) x476001)) else (if (((bt x49 x476000) != (bt x43 x476000)) != false) = true then (some false) else (laws_FnOrdersTurn.l3 k x43 x44 x49 x53 x54 x55 x56 (x476000 + 1) x476001))) else (none)) else (none)) else (none)) else (none)) else (laws_FnOrdersTurn.j7 k x53 x54 x55 x56)
def laws_FnOrdersTurn.l2 : Nat → ByteArray → Int → ByteArray → ByteArray → Bool → ByteArray → List (List Int) → ByteArray → Bool → Int → ByteArray → Option (Bool)
  | 0, _, _, _, _, _, _, _, _, _, _, _ => none
  | k + 1, x43, x44, x45, x49, x50, x53, x54, x55, x56, x475000, x475001 => if x475000 < (x475001.size : Int) then (if 0 ≤ x475000 then (if bt x475001 x475000 < 128 then (if x475000 < (x45.size : Int) then (if x475000 < (x43.size : Int) then (if (((bt x45 x475000) != (bt x43 x475000)) != (decide (x475000 < x44))) = true then (some false) else (laws_FnOrdersTurn.l2 k x43 x44 x45 x49 x50 x53 x54 x55 x56 (x475000 + 1) x475001)) else (none)) else (none)) else (none)) else (none)) else (laws_FnOrdersTurn.j5 k x43 x44 x49 x50 x53 x54 x55 x56)
def laws_FnOrdersTurn.l1 : Nat → ByteArray → Int → Int → ByteArray → ByteArray → Int → ByteArray → Bool → ByteArray → Bool → ByteArray → List (List Int) → ByteArray → Bool → Int → ByteArray → Option (Bool)
  | 0, _, _, _, _, _, _, _, _, _, _, _, _, _, _, _, _ => none
  | k + 1, x36, x37, x38, x39, x43, x44, x45, x46, x49, x50, x53, x54, x55, x56, x474000, x474001 => if x474000 < (x474001.size : Int) then (if 0 ≤ x474000 then (if bt x474001 x474000 < 128 then (if x474000 < (x39.size : Int) then (if x474000 < (x36.size : Int) then (if x474000 ≥ x37 then (if (((bt x39 x474000) != (bt x36 x474000)) != (decide (x474000 ≤ x38))) = true then (some false) else (laws_FnOrdersTurn.l1 k x36 x37 x38 x39 x43 x44 x45 x46 x49 x50 x53 x54 x55 x56 (x474000 + 1) x474001)) else (if (((bt x39 x474000) != (bt x36 x474000)) != false) = true then (some false) else (laws_FnOrdersTurn.l1 k x36 x37 x38 x39 x43 x44 x45 x46 x49 x50 x53 x54 x55 x56 (x474000 + 1) x474001))) else (none)) else (none)) else (none)) else (none)) else (laws_FnOrdersTurn.j3 k x43 x44 x45 x46 x49 x50 x53 x54 x55 x56)
def laws_FnOrdersTurn.l0 : Nat → List Int → ByteArray → ByteArray → Int → ByteArray → List Int → Int → Int → Option (Bool)
  | 0, _, _, _, _, _, _, _, _ => none
  | k + 1, x1, x5, x6, x11, x27, x241, x242, x243 => if x243 < x242 then (if 0 ≤ x243 then (if x243 < (x241.length : Int) then ((impl_TurnFirst.f x27 (rd x241 x243)).bind fun bt437 => (if bt437.2 = true then (laws_FnOrdersTurn.l0 k x1 x5 x6 x11 bt437.1 x241 x242 (wrap64 (x243 + 1))) else (some false))) else (none)) else (none)) else (if x27.toList = x6.toList then (if (x5.size : Int) > 1 then ((impl_TurnRun.f x5 0 (wrap64 ((x5.size : Int) / 2))).bind fun bt439 => ((impl_FewestRuns.f k bt439.1 x6).bind fun bt441 => (if bt439.2 = true then (if bt441.2 = true then (if bt441.1 < (wrap64 (x11 - 1)) then (some false) else (if bt441.1 > (wrap64 (x11 + 1)) then (some false) else (laws_FnOrdersTurn.j1 k x1))) else (some false)) else (some false)))) else (laws_FnOrdersTurn.j1 k x1)) else (some false))
end
def laws_FnOrdersTurn.f (k : Nat) (l0 : List Int) (l1 : List Int) : Option (Bool) := (laws_big.f l0 l1).bind fun t402 => (if t402 = true then (some true) else ((spec_DrawRunsTo.f k l0).bind fun bt403 => ((impl_RunsTo.f k bt403.1 bt403.2).bind fun bt405 => ((spec_RunsTo.f k bt403.1 bt403.2).bind fun bt409 => ((impl_FewestRuns.f k bt403.1 bt403.2).bind fun bt413 => ((spec_FewestRuns.f k bt403.1 bt403.2).bind fun bt415 => ((impl_FirstsTo.f k bt403.1 bt403.2).bind fun bt417 => ((spec_FirstsTo.f k bt403.1 bt403.2).bind fun bt421 => ((impl_FewestFirst.f k bt403.1 bt403.2).bind fun bt425 => ((spec_FewestFirst.f k bt403.1 bt403.2).bind fun bt427 => (if (bt405.2 != bt409.2) = true then (some false) else ((laws_mRows.f k bt405.1 bt409.1).bind fun t429 => (if t429 = true then (if (bt413.2 != bt415.2) = true then (some false) else (if bt413.1 = bt415.1 then (if (bt417.2 != bt421.2) = true then (some false) else ((laws_mSame.f k bt417.1 bt421.1).bind fun t430 => (if t430 = true then (if (bt425.2 != bt427.2) = true then (some false) else (if bt425.1 = bt427.1 then (if (bt413.2 != bt405.2) = true then (some false) else (if (bt417.2 != bt405.2) = true then (some false) else (if (bt425.2 != bt405.2) = true then (some false) else (if bt405.2 = true then ((impl_PlayRuns.f k bt403.1 bt405.1).bind fun bt431 => ((impl_MostRuns.f (bt403.1.size : Int)).bind fun bt433 => (if bt431.2 = true then (if bt431.1.toList = bt403.2.toList then (if (bt405.1.length : Int) = bt413.1 then (if bt433.2 = true then (if bt413.1 > bt433.1 then (some false) else (if (bt417.1.length : Int) = bt425.1 then ((laws_mRises.f k bt417.1).bind fun t435 => (if t435 = true then (if bt425.1 < bt413.1 then (some false) else (if bt425.1 > (wrap64 (2 * bt413.1)) then (some false) else (laws_FnOrdersTurn.l0 k l1 bt403.1 bt403.2 bt413.1 bt403.1 bt417.1 (bt417.1.length : Int) 0))) else (some false))) else (some false))) else (some false)) else (some false)) else (some false)) else (some false)))) else (laws_FnOrdersTurn.j1 k l1))))) else (some false))) else (some false)))) else (some false))) else (some false))))))))))))))
theorem laws_FnOrdersTurn.mono_l : ∀ k, (∀ y0, LeO (laws_FnOrdersTurn.j1 k y0) (laws_FnOrdersTurn.j1 (k + 1) y0)) ∧ (∀ y0 y1 y2 y3 y4 y5 y6 y7 y8 y9, LeO (laws_FnOrdersTurn.j3 k y0 y1 y2 y3 y4 y5 y6 y7 y8 y9) (laws_FnOrdersTurn.j3 (k + 1) y0 y1 y2 y3 y4 y5 y6 y7 y8 y9)) ∧ (∀ y0 y1 y2 y3 y4 y5 y6 y7, LeO (laws_FnOrdersTurn.j5 k y0 y1 y2 y3 y4 y5 y6 y7) (laws_FnOrdersTurn.j5 (k + 1) y0 y1 y2 y3 y4 y5 y6 y7)) ∧ (∀ y0 y1 y2 y3, LeO (laws_FnOrdersTurn.j7 k y0 y1 y2 y3) (laws_FnOrdersTurn.j7 (k + 1) y0 y1 y2 y3)) ∧ (∀ y0 y1 y2 y3 y4, LeO (laws_FnOrdersTurn.l4 k y0 y1 y2 y3 y4) (laws_FnOrdersTurn.l4 (k + 1) y0 y1 y2 y3 y4)) ∧ (∀ y0 y1 y2 y3 y4 y5 y6 y7 y8, LeO (laws_FnOrdersTurn.l3 k y0 y1 y2 y3 y4 y5 y6 y7 y8) (laws_FnOrdersTurn.l3 (k + 1) y0 y1 y2 y3 y4 y5 y6 y7 y8)) ∧ (∀ y0 y1 y2 y3 y4 y5 y6 y7 y8 y9 y10, LeO (laws_FnOrdersTurn.l2 k y0 y1 y2 y3 y4 y5 y6 y7 y8 y9 y10) (laws_FnOrdersTurn.l2 (k + 1) y0 y1 y2 y3 y4 y5 y6 y7 y8 y9 y10)) ∧ (∀ y0 y1 y2 y3 y4 y5 y6 y7 y8 y9 y10 y11 y12 y13 y14 y15, LeO (laws_FnOrdersTurn.l1 k y0 y1 y2 y3 y4 y5 y6 y7 y8 y9 y10 y11 y12 y13 y14 y15) (laws_FnOrdersTurn.l1 (k + 1) y0 y1 y2 y3 y4 y5 y6 y7 y8 y9 y10 y11 y12 y13 y14 y15)) ∧ (∀ y0 y1 y2 y3 y4 y5 y6 y7, LeO (laws_FnOrdersTurn.l0 k y0 y1 y2 y3 y4 y5 y6 y7) (laws_FnOrdersTurn.l0 (k + 1) y0 y1 y2 y3 y4 y5 y6 y7))
  | 0 => ⟨fun _ r h => by simp [laws_FnOrdersTurn.j1] at h, fun _ _ _ _ _ _ _ _ _ _ r h => by simp [laws_FnOrdersTurn.j3] at h, fun _ _ _ _ _ _ _ _ r h => by simp [laws_FnOrdersTurn.j5] at h, fun _ _ _ _ r h => by simp [laws_FnOrdersTurn.j7] at h, fun _ _ _ _ _ r h => by simp [laws_FnOrdersTurn.l4] at h, fun _ _ _ _ _ _ _ _ _ r h => by simp [laws_FnOrdersTurn.l3] at h, fun _ _ _ _ _ _ _ _ _ _ _ r h => by simp [laws_FnOrdersTurn.l2] at h, fun _ _ _ _ _ _ _ _ _ _ _ _ _ _ _ _ r h => by simp [laws_FnOrdersTurn.l1] at h, fun _ _ _ _ _ _ _ _ r h => by simp [laws_FnOrdersTurn.l0] at h⟩
  | k + 1 => by
    obtain ⟨ih0, ih1, ih2, ih3, ih4, ih5, ih6, ih7, ih8⟩ := laws_FnOrdersTurn.mono_l k
    refine ⟨?q0, ?q1, ?q2, ?q3, ?q4, ?q5, ?q6, ?q7, ?q8⟩
    case' q0 => (intros; unfold laws_FnOrdersTurn.j1)
    case' q1 => (intros; unfold laws_FnOrdersTurn.j3)
    case' q2 => (intros; unfold laws_FnOrdersTurn.j5)
    case' q3 => (intros; unfold laws_FnOrdersTurn.j7)
    case' q4 => (intros; unfold laws_FnOrdersTurn.l4)
    case' q5 => (intros; unfold laws_FnOrdersTurn.l3)
    case' q6 => (intros; unfold laws_FnOrdersTurn.l2)
    case' q7 => (intros; unfold laws_FnOrdersTurn.l1)
    case' q8 => (intros; unfold laws_FnOrdersTurn.l0)
    all_goals repeat' first
     | (with_reducible exact ih0 _)
     | (with_reducible exact ih1 _ _ _ _ _ _ _ _ _ _)
     | (with_reducible exact ih2 _ _ _ _ _ _ _ _)
     | (with_reducible exact ih3 _ _ _ _)
     | (with_reducible exact ih4 _ _ _ _ _)
     | (with_reducible exact ih5 _ _ _ _ _ _ _ _ _)
     | (with_reducible exact ih6 _ _ _ _ _ _ _ _ _ _ _)
     | (with_reducible exact ih7 _ _ _ _ _ _ _ _ _ _ _ _ _ _ _ _)
     | (with_reducible exact ih8 _ _ _ _ _ _ _ _)
     | (with_reducible exact impl_FewestFirst.mono _ _ _)
     | (with_reducible exact impl_FewestRuns.mono _ _ _)
     | (with_reducible exact impl_FirstsTo.mono _ _ _)
     | (with_reducible exact impl_PlayRuns.mono _ _ _)
     | (with_reducible exact impl_RunsTo.mono _ _ _)
     | (with_reducible exact laws_mRises.mono _ _)
     | (with_reducible exact laws_mRows.mono _ _ _)
     | (with_reducible exact laws_mSame.mono _ _ _)
     | (with_reducible exact spec_DrawPlayRuns.mono _ _)
     | (with_reducible exact spec_DrawRunsTo.mono _ _)
     | (with_reducible exact spec_DrawTurnFirst.mono _ _)
     | (with_reducible exact spec_DrawTurnRun.mono _ _)
     | (with_reducible exact spec_FewestFirst.mono _ _ _)
     | (with_reducible exact spec_FewestRuns.mono _ _ _)
     | (with_reducible exact spec_FirstsTo.mono _ _ _)
     | (with_reducible exact spec_PlayRuns.mono _ _ _)
     | (with_reducible exact spec_RunsTo.mono _ _ _)
     | (with_reducible exact spec_TurnAround.mono _ _ _)
     | (with_reducible exact spec_TurnFirst.mono _ _ _)
     | (with_reducible exact spec_TurnRun.mono _ _ _ _)
     | (with_reducible exact LeO.refl _)
     | (with_reducible exact LeO.none _)
     | (with_reducible refine LeO.ite ?_ ?_)
     | (with_reducible refine LeO.bind ?_ (fun _ => ?_))
     | exact ih0 _
     | exact ih1 _ _ _ _ _ _ _ _ _ _
     | exact ih2 _ _ _ _ _ _ _ _
     | exact ih3 _ _ _ _
     | exact ih4 _ _ _ _ _
     | exact ih5 _ _ _ _ _ _ _ _ _
     | exact ih6 _ _ _ _ _ _ _ _ _ _ _
     | exact ih7 _ _ _ _ _ _ _ _ _ _ _ _ _ _ _ _
     | exact ih8 _ _ _ _ _ _ _ _
     | exact impl_FewestFirst.mono _ _ _
     | exact impl_FewestRuns.mono _ _ _
     | exact impl_FirstsTo.mono _ _ _
     | exact impl_PlayRuns.mono _ _ _
     | exact impl_RunsTo.mono _ _ _
     | exact laws_mRises.mono _ _
     | exact laws_mRows.mono _ _ _
     | exact laws_mSame.mono _ _ _
     | exact spec_DrawPlayRuns.mono _ _
     | exact spec_DrawRunsTo.mono _ _
     | exact spec_DrawTurnFirst.mono _ _
     | exact spec_DrawTurnRun.mono _ _
     | exact spec_FewestFirst.mono _ _ _
     | exact spec_FewestRuns.mono _ _ _
     | exact spec_FirstsTo.mono _ _ _
     | exact spec_PlayRuns.mono _ _ _
     | exact spec_RunsTo.mono _ _ _
     | exact spec_TurnAround.mono _ _ _
     | exact spec_TurnFirst.mono _ _ _
     | exact spec_TurnRun.mono _ _ _ _
     | exact LeO.none _
     | refine LeO.ite ?_ ?_
     | refine LeO.bind ?_ (fun _ => ?_)
theorem laws_FnOrdersTurn.mono : ∀ a0 a1 k, LeO (laws_FnOrdersTurn.f k a0 a1) (laws_FnOrdersTurn.f (k + 1) a0 a1) := by
  intro a0 a1 k
  obtain ⟨ih0, ih1, ih2, ih3, ih4, ih5, ih6, ih7, ih8⟩ := laws_FnOrdersTurn.mono_l k
  unfold laws_FnOrdersTurn.f
  repeat' first
      | (with_reducible exact ih0 _)
      | (with_reducible exact ih1 _ _ _ _ _ _ _ _ _ _)
      | (with_reducible exact ih2 _ _ _ _ _ _ _ _)
      | (with_reducible exact ih3 _ _ _ _)
      | (with_reducible exact ih4 _ _ _ _ _)
      | (with_reducible exact ih5 _ _ _ _ _ _ _ _ _)
      | (with_reducible exact ih6 _ _ _ _ _ _ _ _ _ _ _)
      | (with_reducible exact ih7 _ _ _ _ _ _ _ _ _ _ _ _ _ _ _ _)
      | (with_reducible exact ih8 _ _ _ _ _ _ _ _)
      | (with_reducible exact impl_FewestFirst.mono _ _ _)
      | (with_reducible exact impl_FewestRuns.mono _ _ _)
      | (with_reducible exact impl_FirstsTo.mono _ _ _)
      | (with_reducible exact impl_PlayRuns.mono _ _ _)
      | (with_reducible exact impl_RunsTo.mono _ _ _)
      | (with_reducible exact laws_mRises.mono _ _)
      | (with_reducible exact laws_mRows.mono _ _ _)
      | (with_reducible exact laws_mSame.mono _ _ _)
      | (with_reducible exact spec_DrawPlayRuns.mono _ _)
      | (with_reducible exact spec_DrawRunsTo.mono _ _)
      | (with_reducible exact spec_DrawTurnFirst.mono _ _)
      | (with_reducible exact spec_DrawTurnRun.mono _ _)
      | (with_reducible exact spec_FewestFirst.mono _ _ _)
      | (with_reducible exact spec_FewestRuns.mono _ _ _)
      | (with_reducible exact spec_FirstsTo.mono _ _ _)
      | (with_reducible exact spec_PlayRuns.mono _ _ _)
      | (with_reducible exact spec_RunsTo.mono _ _ _)
      | (with_reducible exact spec_TurnAround.mono _ _ _)
      | (with_reducible exact spec_TurnFirst.mono _ _ _)
      | (with_reducible exact spec_TurnRun.mono _ _ _ _)
      | (with_reducible exact LeO.refl _)
      | (with_reducible exact LeO.none _)
      | (with_reducible refine LeO.ite ?_ ?_)
      | (with_reducible refine LeO.bind ?_ (fun _ => ?_))
      | exact ih0 _
      | exact ih1 _ _ _ _ _ _ _ _ _ _
      | exact ih2 _ _ _ _ _ _ _ _
      | exact ih3 _ _ _ _
      | exact ih4 _ _ _ _ _
      | exact ih5 _ _ _ _ _ _ _ _ _
      | exact ih6 _ _ _ _ _ _ _ _ _ _ _
      | exact ih7 _ _ _ _ _ _ _ _ _ _ _ _ _ _ _ _
      | exact ih8 _ _ _ _ _ _ _ _
      | exact impl_FewestFirst.mono _ _ _
      | exact impl_FewestRuns.mono _ _ _
      | exact impl_FirstsTo.mono _ _ _
      | exact impl_PlayRuns.mono _ _ _
      | exact impl_RunsTo.mono _ _ _
      | exact laws_mRises.mono _ _
      | exact laws_mRows.mono _ _ _
      | exact laws_mSame.mono _ _ _
      | exact spec_DrawPlayRuns.mono _ _
      | exact spec_DrawRunsTo.mono _ _
      | exact spec_DrawTurnFirst.mono _ _
      | exact spec_DrawTurnRun.mono _ _
      | exact spec_FewestFirst.mono _ _ _
      | exact spec_FewestRuns.mono _ _ _
      | exact spec_FirstsTo.mono _ _ _
      | exact spec_PlayRuns.mono _ _ _
      | exact spec_RunsTo.mono _ _ _
      | exact spec_TurnAround.mono _ _ _
      | exact spec_TurnFirst.mono _ _ _
      | exact spec_TurnRun.mono _ _ _ _
      | exact LeO.none _
      | refine LeO.ite ?_ ?_
      | refine LeO.bind ?_ (fun _ => ?_)
def laws_FnOrdersTurn.T55 : Bool × List (List Nat × List Nat) := (true, [([], []), ([], []), ([0, 1], [0, 1]), ([], []), ([], []), ([3, 4], [3, 4]), ([2, 5], [2, 5]), ([], []), ([], []), ([7, 8], [7, 8]), ([9], [9]), ([10], [10]), ([10], [10]), ([11, 12, 10], [10, 11, 12]), ([10, 13], [10, 13]), ([6, 14], [6, 14])])
def laws_FnOrdersTurn.B55 : List Nat := [0, 0, 3, 0, 0, 24, 63, 0, 0, 384, 896, 1920, 1920, 8064, 16256, 32767]
theorem laws_FnOrdersTurn.tab55 : rtab .any (opsOf Tryd.f3 55) = laws_FnOrdersTurn.T55 := by kernel_rfl
theorem laws_FnOrdersTurn.bits55 : waitsOk laws_FnOrdersTurn.T55.2 laws_FnOrdersTurn.B55 = true := by kernel_rfl
def laws_FnOrdersTurn.T61 : Bool × List (List Nat × List Nat) := (true, [([], []), ([], []), ([0, 1], [0, 1]), ([], []), ([], []), ([3, 4], [3, 4]), ([2, 5], [2, 5]), ([], []), ([], []), ([7, 8], [7, 8]), ([6, 9], [6, 9])])
def laws_FnOrdersTurn.B61 : List Nat := [0, 0, 3, 0, 0, 24, 63, 0, 0, 384, 1023]
theorem laws_FnOrdersTurn.tab61 : rtab .any (opsOf Tryd.f3 61) = laws_FnOrdersTurn.T61 := by kernel_rfl
theorem laws_FnOrdersTurn.bits61 : waitsOk laws_FnOrdersTurn.T61.2 laws_FnOrdersTurn.B61 = true := by kernel_rfl
def laws_FnOrdersTurn.T67 : Bool × List (List Nat × List Nat) := (true, [([], []), ([], []), ([0, 1], [0, 1]), ([], []), ([], []), ([3, 4], [3, 4]), ([2, 5], [2, 5]), ([], []), ([], []), ([8], [8]), ([7, 9], [7, 9]), ([10], [10]), ([11], [11]), ([11], [11]), ([13, 11], [11, 13]), ([12, 14, 11], [11, 12, 14]), ([11, 15], [11, 15]), ([6, 16], [6, 16])])
def laws_FnOrdersTurn.B67 : List Nat := [0, 0, 3, 0, 0, 24, 63, 0, 0, 256, 896, 1920, 3968, 3968, 12160, 32640, 65408, 131071]
theorem laws_FnOrdersTurn.tab67 : rtab .any (opsOf Tryd.f3 67) = laws_FnOrdersTurn.T67 := by kernel_rfl
theorem laws_FnOrdersTurn.bits67 : waitsOk laws_FnOrdersTurn.T67.2 laws_FnOrdersTurn.B67 = true := by kernel_rfl
def laws_FnOrdersTurn.T74 : Bool × List (List Nat × List Nat) := (true, [([], []), ([], []), ([1], [1]), ([2], [2]), ([], []), ([4], [4]), ([5], [5]), ([0, 3, 6], [0, 3, 6]), ([7], [7]), ([8], [8]), ([8], [8]), ([9, 7, 0, 1, 2, 3, 4, 5, 6, 7, 8, 9], [9]), ([10, 11, 0, 1, 2, 3, 4, 5, 6, 7, 8, 9, 10, 11], [10])])
def laws_FnOrdersTurn.B74 : List Nat := [0, 0, 2, 6, 0, 16, 48, 127, 255, 511, 511, 1023, 4095]
theorem laws_FnOrdersTurn.tab74 : rtab .any (opsOf Tryd.f3 74) = laws_FnOrdersTurn.T74 := by kernel_rfl
theorem laws_FnOrdersTurn.bits74 : waitsOk laws_FnOrdersTurn.T74.2 laws_FnOrdersTurn.B74 = true := by kernel_rfl
end Go.Proofs.YteoklfgmdcofcaaDoor.PFnOrdersTurn
