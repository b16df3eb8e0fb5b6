-- Laid by xprint, a program of this session that runs over the kit's print.
import Derived.Test.YtfaakdokcldnkaaGreatDoorPFnRowsGuessedOfAllx20
namespace Go.Proofs.YtfaakdokcldnkaaGreatDoor.PFnRowsGuessedOfAll
open Go.RowKit Go.Proofs.YtfaakdokcldnkaaGreatDoorW.PrintWords Go.Proofs.YtfaakdokcldnkaaGreatDoorW.PrintLast Go.Proofs.YtfaakdokcldnkaaGreatDoorW.PrintMore Go.Proofs.YtfaakdokcldnkaaGreatDoor.Sq
attribute [local go_sem] max2_int min2_int max_two min_two max_three min_three max_four min_four   -- for this text's walks alone
set_option linter.unusedVariables false
set_option linter.unusedSimpArgs false

/-! ### laws_FnRowsGuessedOfAll: function 3 -/
mutual
def laws_FnRowsGuessedOfAll.j0 : Nat → ByteArray → List ByteArray → Bool → Int → ByteArray → Bool → ByteArray → Bool → List Int → List Int → Int → ByteArray → Bool → Int → List (S42) → Option (Bool)
  | 0, _, _, _, _, _, _, _, _, _, _, _, _, _, _, _ => none
  | k + 1, x1, x5, x6, x9, x13, x14, x17, x21, x25, x29, x33, x37, x307, x489000, x489001 => if x307 = true then (some false) else (if x6 = true then (if (x5.length : Int) = x9 then (if x14 = true then (if 0 < (x5.length : Int) then (if x13.toList = (rdOf ByteArray.empty x5 0).toList then (if (x21 != (x9 == 1)) = true then (some false) else (if (x29.length : Int) = (wrap64 ((x489001.length : Int) + 1)) then (if 0 < (x29.length : Int) then (if 0 ≤ x489000 then (if (rd x29 0) = (shl .i64 1 x489000) then (if 0 ≤ (x489001.length : Int) then (if (x489001.length : Int) < (x29.length : Int) then (if (rd x29 (x489001.length : Int)) = x9 then (if x21 = true then (if x17.toList = x13.toList then (laws_FnRowsGuessedOfAll.j1 k x1 x5 x9 x17 x25 x29 x33 x37 ((x17.size : Int) != x489000) x489000 x489001) else (some false)) else (laws_FnRowsGuessedOfAll.j1 k x1 x5 x9 x17 x25 x29 x33 x37 ((x17.size : Int) != x489000) x489000 x489001)) else (some false)) else (none)) else (none)) else (some false)) else (none)) else (none)) else (some false))) else (some false)) else (none)) else (if (x21 != (x9 == 1)) = true then (some false) else (if (x29.length : Int) = (wrap64 ((x489001.length : Int) + 1)) then (if 0 < (x29.length : Int) then (if 0 ≤ x489000 then (if (rd x29 0) = (shl .i64 1 x489000) then (if 0 ≤ (x489001.length : Int) then (if (x489001.length : Int) < (x29.length : Int) then (if (rd x29 (x489001.length : Int)) = x9 then (if x21 = true then (if x17.toList = x13.toList then (laws_FnRowsGuessedOfAll.j1 k x1 x5 x9 x17 x25 x29 x33 x37 false x489000 x489001) else (some false)) else (laws_FnRowsGuessedOfAll.j1 k x1 x5 x9 x17 x25 x29 x33 x37 false x489000 x489001)) else (some false)) else (none)) else (none)) else (some false)) else (none)) else (none)) else (some false)))) else (some false)) else (laws_FnRowsGuessedOfAll.j7 k x1))
def laws_FnRowsGuessedOfAll.j7 : Nat → ByteArray → Option (Bool)
  | 0, _ => none
  | k + 1, x1 => (impl_ParsePuzzle.f k x1).bind fun bt574 => ((spec_ParsePuzzle.f k x1).bind fun bt580 => (if (bt574.2.2 != bt580.2.2) = true then (some false) else ((laws_vPuzzle.f k bt574.1 bt574.2.1 bt580.1 bt580.2.1).bind fun t586 => (if t586 = true then (if bt574.2.2 = true then ((impl_PuzzleText.f k bt574.1 bt574.2.1).bind fun bt587 => (if bt587.2 = true then (some (bt587.1.toList == x1.toList)) else (some false))) else (some true)) else (some false)))))
def laws_FnRowsGuessedOfAll.j1 : Nat → ByteArray → List ByteArray → Int → ByteArray → List Int → List Int → Int → ByteArray → Bool → Int → List (S42) → Option (Bool)
  | 0, _, _, _, _, _, _, _, _, _, _, _ => none
  | k + 1, x1, x5, x9, x17, x25, x29, x33, x37, x374, x489000, x489001 => if x374 = true then (some false) else (laws_FnRowsGuessedOfAll.l0 k x1 x5 x9 x17 x25 x29 x33 x37 x5 (x5.length : Int) 0 x489000 x489001)
def laws_FnRowsGuessedOfAll.l0 : Nat → ByteArray → List ByteArray → Int → ByteArray → List Int → List Int → Int → ByteArray → List ByteArray → Int → Int → Int → List (S42) → Option (Bool)
  | 0, _, _, _, _, _, _, _, _, _, _, _, _, _ => none
  | k + 1, x1, x5, x9, x17, x25, x29, x33, x37, x375, x376, x377, x489000, x489001 => if x377 < x376 then (if 0 ≤ x377 then (if x377 < (x375.length : Int) then ((impl_IsRow.f (rdOf ByteArray.empty x375 x377)).bind fun t549 => (if t549 = true then (if ((rdOf ByteArray.empty x375 x377).size : Int) = x489000 then (if x377 > 0 then (if 0 ≤ (wrap64 (x377 - 1)) then (if (wrap64 (x377 - 1)) < (x5.length : Int) then (laws_FnRowsGuessedOfAll.j3 k x1 x5 x9 x17 x25 x29 x33 x37 (rdOf ByteArray.empty x375 x377) x375 x376 x377 (!(Op.bytesLess ((rdOf ByteArray.empty x5 (wrap64 (x377 - 1))).toList) ((rdOf ByteArray.empty x375 x377).toList))) x489000 x489001) else (none)) else (none)) else (laws_FnRowsGuessedOfAll.j3 k x1 x5 x9 x17 x25 x29 x33 x37 (rdOf ByteArray.empty x375 x377) x375 x376 x377 false x489000 x489001)) else (some false)) else (some false))) else (none)) else (none)) else (laws_FnRowsGuessedOfAll.l3 k x1 x9 x25 x29 x33 x37 (x489001.length : Int) 0 x489000 x489001)
def laws_FnRowsGuessedOfAll.j3 : Nat → ByteArray → List ByteArray → Int → ByteArray → List Int → List Int → Int → ByteArray → ByteArray → List ByteArray → Int → Int → Bool → Int → List (S42) → Option (Bool)
  | 0, _, _, _, _, _, _, _, _, _, _, _, _, _, _, _ => none
  | k + 1, x1, x5, x9, x17, x25, x29, x33, x37, x42, x375, x376, x377, x404, x489000, x489001 => if x404 = true then (some false) else (laws_FnRowsGuessedOfAll.l1 k x1 x5 x9 x17 x25 x29 x33 x37 x42 x375 x376 x377 x489001 (x489001.length : Int) 0 x489000 x489001)
def laws_FnRowsGuessedOfAll.l1 : Nat → ByteArray → List ByteArray → Int → ByteArray → List Int → List Int → Int → ByteArray → ByteArray → List ByteArray → Int → Int → List (S42) → Int → Int → Int → List (S42) → Option (Bool)
  | 0, _, _, _, _, _, _, _, _, _, _, _, _, _, _, _, _, _ => none
  | k + 1, x1, x5, x9, x17, x25, x29, x33, x37, x42, x375, x376, x377, x406, x407, x408, x489000, x489001 => if x408 < x407 then (if 0 ≤ x408 then (if x408 < (x406.length : Int) then ((impl_DoesFit.f k ((rd_T42 x406 x408).f0) ((rd_T42 x406 x408).f1) ((rd_T42 x406 x408).f2) ((rd_T42 x406 x408).f3) x42).bind fun bt553 => (if bt553.2 = true then (if bt553.1 = true then (laws_FnRowsGuessedOfAll.l1 k x1 x5 x9 x17 x25 x29 x33 x37 x42 x375 x376 x377 x406 x407 (wrap64 (x408 + 1)) x489000 x489001) else (some false)) else (some false))) else (none)) else (none)) else (laws_FnRowsGuessedOfAll.l2 k x1 x5 x9 x17 x25 x29 x33 x37 x42 x375 x376 x377 x489000 x489001 0 x42)
def laws_FnRowsGuessedOfAll.l2 : Nat → ByteArray → List ByteArray → Int → ByteArray → List Int → List Int → Int → ByteArray → ByteArray → List ByteArray → Int → Int → Int → List (S42) → Int → ByteArray → Option (Bool)
  | 0, _, _, _, _, _, _, _, _, _, _, _, _, _, _, _, _ => none
  | k + 1, x1, x5, x9, x17, x25, x29, x33, x37, x42, x375, x376, x377, x489000, x489001, x556000, x556001 => if x556000 < (x556001.size : Int) then (if 0 ≤ x556000 then (if bt x556001 x556000 < 128 then (if x556000 < (x17.size : Int) then (if (bt x17 x556000) = 63 then (laws_FnRowsGuessedOfAll.l2 k x1 x5 x9 x17 x25 x29 x33 x37 x42 x375 x376 x377 x489000 x489001 (x556000 + 1) x556001) else (if x556000 < (x42.size : Int) then (if (bt x17 x556000) = (bt x42 x556000) then (laws_FnRowsGuessedOfAll.l2 k x1 x5 x9 x17 x25 x29 x33 x37 x42 x375 x376 x377 x489000 x489001 (x556000 + 1) x556001) else (some false)) else (none))) else (none)) else (none)) else (none)) else (laws_FnRowsGuessedOfAll.l0 k x1 x5 x9 x17 x25 x29 x33 x37 x375 x376 (wrap64 (x377 + 1)) x489000 x489001)
def laws_FnRowsGuessedOfAll.l3 : Nat → ByteArray → Int → List Int → List Int → Int → ByteArray → Int → Int → Int → List (S42) → Option (Bool)
  | 0, _, _, _, _, _, _, _, _, _, _ => none
  | k + 1, x1, x9, x25, x29, x33, x37, x446, x447, x489000, x489001 => if x447 < x446 then ((impl_DropClue.f k x489000 x489001 x447).bind fun bt556 => ((impl_CountSolutions.f k bt556.1 bt556.2.1).bind fun bt562 => (if bt556.2.2 = true then (if bt562.2 = true then ((laws_vHas.f k x25 x447).bind fun t564 => (if (t564 != (bt562.1 == x9)) = true then (some false) else (if 0 ≤ (wrap64 (x447 + 1)) then (if (wrap64 (x447 + 1)) < (x29.length : Int) then (if 0 ≤ x447 then (if x447 < (x29.length : Int) then (if (rd x29 (wrap64 (x447 + 1))) > (rd x29 x447) then (some false) else (if x33 < 0 then (some false) else (if x33 ≥ (x489001.length : Int) then (some false) else (laws_FnRowsGuessedOfAll.l3 k x1 x9 x25 x29 x33 x37 x446 (wrap64 (x447 + 1)) x489000 x489001)))) else (none)) else (none)) else (none)) else (none)))) else (some false)) else (some false)))) else ((impl_ParsePuzzle.f k x37).bind fun bt567 => (if bt567.2.2 = true then ((laws_vPuzzle.f k bt567.1 bt567.2.1 x489000 x489001).bind fun t573 => (if t573 = true then (laws_FnRowsGuessedOfAll.j7 k x1) else (some false))) else (some false)))
end
def laws_FnRowsGuessedOfAll.f (k : Nat) (a0_0 : Int) (l0_1 : List (S42)) (a1 : ByteArray) : Option (Bool) := if (a1.size : Int) > 1048576 then (some true) else ((impl_Solutions.f k a0_0 l0_1).bind fun bt489 => ((spec_Solutions.f k a0_0 l0_1).bind fun bt493 => ((impl_CountSolutions.f k a0_0 l0_1).bind fun bt497 => ((spec_CountSolutions.f k a0_0 l0_1).bind fun bt499 => ((impl_FirstSolution.f k a0_0 l0_1).bind fun bt501 => ((spec_FirstSolution.f k a0_0 l0_1).bind fun bt503 => ((impl_SureSigns.f k a0_0 l0_1).bind fun bt505 => ((spec_SureSigns.f k a0_0 l0_1).bind fun bt507 => ((impl_IsSolved.f k a0_0 l0_1).bind fun bt509 => ((spec_IsSolved.f k a0_0 l0_1).bind fun bt511 => ((impl_NeedlessClues.f k a0_0 l0_1).bind fun bt513 => ((spec_NeedlessClues.f k a0_0 l0_1).bind fun bt517 => ((impl_LeftByClues.f k a0_0 l0_1).bind fun bt521 => ((spec_LeftByClues.f k a0_0 l0_1).bind fun bt525 => ((impl_BestClue.f k a0_0 l0_1).bind fun bt529 => ((spec_BestClue.f k a0_0 l0_1).bind fun bt531 => ((impl_PuzzleText.f k a0_0 l0_1).bind fun bt533 => ((spec_PuzzleText.f k a0_0 l0_1).bind fun bt535 => (if (bt489.2 != bt493.2) = true then (some false) else ((laws_vTexts.f k bt489.1 bt493.1).bind fun t537 => (if t537 = true then (if (bt497.2 != bt499.2) = true then (some false) else (if bt497.1 = bt499.1 then (if (bt501.2 != bt503.2) = true then (some false) else (if bt501.1.toList = bt503.1.toList then (if (bt505.2 != bt507.2) = true then (some false) else (if bt505.1.toList = bt507.1.toList then (if (bt509.2 != bt511.2) = true then (some false) else (if (bt509.1 != bt511.1) = true then (some false) else (if (bt513.2 != bt517.2) = true then (some false) else ((laws_vSame.f k bt513.1 bt517.1).bind fun t538 => (if t538 = true then (if (bt521.2 != bt525.2) = true then (some false) else ((laws_vSame.f k bt521.1 bt525.1).bind fun t539 => (if t539 = true then (if (bt529.2 != bt531.2) = true then (some false) else (if bt529.1 = bt531.1 then (if (bt533.2 != bt535.2) = true then (some false) else (if bt533.1.toList = bt535.1.toList then ((impl_IsPuzzle.f k a0_0 l0_1).bind fun t540 => (if (bt489.2 != t540) = true then (some false) else ((impl_IsPuzzle.f k a0_0 l0_1).bind fun t541 => ((spec_IsPuzzle.f k a0_0 l0_1).bind fun t542 => (if (t541 != t542) = true then (some false) else (if (bt497.2 != bt489.2) = true then (some false) else (if bt489.2 = true then (if (bt501.2 != (decide (bt497.1 > 0))) = true then (some false) else (if (bt505.2 != bt501.2) = true then (some false) else (if (bt509.2 != bt489.2) = true then (some false) else (if (bt513.2 != bt489.2) = true then (some false) else (if (bt521.2 != bt489.2) = true then (some false) else (if (bt529.2 != (decide ((l0_1.length : Int) > 0))) = true then (some false) else (laws_FnRowsGuessedOfAll.j0 k a1 bt489.1 bt489.2 bt497.1 bt501.1 bt501.2 bt505.1 bt509.1 bt513.1 bt521.1 bt529.1 bt533.1 (bt533.2 != bt489.2) a0_0 l0_1))))))) else (if (bt501.2 != false) = true then (some false) else (if (bt505.2 != bt501.2) = true then (some false) else (if (bt509.2 != bt489.2) = true then (some false) else (if (bt513.2 != bt489.2) = true then (some false) else (if (bt521.2 != bt489.2) = true then (some false) else (if (bt529.2 != false) = true then (some false) else (laws_FnRowsGuessedOfAll.j0 k a1 bt489.1 bt489.2 bt497.1 bt501.1 bt501.2 bt505.1 bt509.1 bt513.1 bt521.1 bt529.1 bt533.1 (bt533.2 != bt489.2) a0_0 l0_1)))))))))))))) else (some false))) else (some false))) else (some false)))) else (some false)))))) else (some false))) else (some false))) else (some false))) else (some false))))))))))))))))))))))
theorem laws_FnRowsGuessedOfAll.mono_l : ∀ k, (∀ y0 y1 y2 y3 y4 y5 y6 y7 y8 y9 y10 y11 y12 y13 y14, LeO (laws_FnRowsGuessedOfAll.j0 k y0 y1 y2 y3 y4 y5 y6 y7 y8 y9 y10 y11 y12 y13 y14) (laws_FnRowsGuessedOfAll.j0 (k + 1) y0 y1 y2 y3 y4 y5 y6 y7 y8 y9 y10 y11 y12 y13 y14)) ∧ (∀ y0, LeO (laws_FnRowsGuessedOfAll.j7 k y0) (laws_FnRowsGuessedOfAll.j7 (k + 1) y0)) ∧ (∀ y0 y1 y2 y3 y4 y5 y6 y7 y8 y9 y10, LeO (laws_FnRowsGuessedOfAll.j1 k y0 y1 y2 y3 y4 y5 y6 y7 y8 y9 y10) (laws_FnRowsGuessedOfAll.j1 (k + 1) y0 y1 y2 y3 y4 y5 y6 y7 y8 y9 y10)) ∧ (∀ y0 y1 y2 y3 y4 y5 y6 y7 y8 y9 y10 y11 y12, LeO (laws_FnRowsGuessedOfAll.l0 k y0 y1 y2 y3 y4 y5 y6 y7 y8 y9 y10 y11 y12) (laws_FnRowsGuessedOfAll.l0 (k + 1) y0 y1 y2 y3 y4 y5 y6 y7 y8 y9 y10 y11 y12)) ∧ (∀ y0 y1 y2 y3 y4 y5 y6 y7 y8 y9 y10 y11 y12 y13 y14, LeO (laws_FnRowsGuessedOfAll.j3 k y0 y1 y2 y3 y4 y5 y6 y7 y8 y9 y10 y11 y12 y13 y14) (laws_FnRowsGuessedOfAll.j3 (k + 1) y0 y1 y2 y3 y4 y5 y6 y7 y8 y9 y10 y11 y12 y13 y14)) ∧ (∀ y0 y1 y2 y3 y4 y5 y6 y7 y8 y9 y10 y11 y12 y13 y14 y15 y16, LeO (laws_FnRowsGuessedOfAll.l1 k y0 y1 y2 y3 y4 y5 y6 y7 y8 y9 y10 y11 y12 y13 y14 y15 y16) (laws_FnRowsGuessedOfAll.l1 (k + 1) y0 y1 y2 y3 y4 y5 y6 y7 y8 y9 y10 y11 y12 y13 y14 y15 y16)) ∧ (∀ y0 y1 y2 y3 y4 y5 y6 y7 y8 y9 y10 y11 y12 y13 y14 y15, LeO (laws_FnRowsGuessedOfAll.l2 k y0 y1 y2 y3 y4 y5 y6 y7 y8 y9 y10 y11 y12 y13 y14 y15) (laws_FnRowsGuessedOfAll.l2 (k + 1) y0 y1 y2 y3 y4 y5 y6 y7 y8 y9 y10 y11 y12 y13 y14 y15)) ∧ (∀ y0 y1 y2 y3 y4 y5 y6 y7 y8 y9, LeO (laws_FnRowsGuessedOfAll.l3 k y0 y1 y2 y3 y4 y5 y6 y7 y8 y9) (laws_FnRowsGuessedOfAll.l3 (k + 1) y0 y1 y2 y3 y4 y5 y6 y7 y8 y9))
  | 0 => ⟨fun _ _ _ _ _ _ _ _ _ _ _ _ _ _ _ r h => by simp [laws_FnRowsGuessedOfAll.j0] at h, fun _ r h => by simp [laws_FnRowsGuessedOfAll.j7] at h, fun _ _ _ _ _ _ _ _ _ _ _ r h => by simp [laws_FnRowsGuessedOfAll.j1] at h, fun _ _ _ _ _ _ _ _ _ _ _ _ _ r h => by simp [laws_FnRowsGuessedOfAll.l0] at h, fun _ _ _ _ _ _ _ _ _ _ _ _ _ _ _ r h => by simp [laws_FnRowsGuessedOfAll.j3] at h, fun _ _ _ _ _ _ _ _ _ _ _ _ _ _ _ _ _ r h => by simp [laws_FnRowsGuessedOfAll.l1] at h, fun _ _ _ _ _ _ _ _ _ _ _ _ _ _ _ _ r h => by simp [laws_FnRowsGuessedOfAll.l2] at h, fun _ _ _ _ _ _ _ _ _ _ r h => by simp [laws_FnRowsGuessedOfAll.l3] at h⟩
  | k + 1 => by
    obtain ⟨ih0, ih1, ih2, ih3, ih4, ih5, ih6, ih7⟩ := laws_FnRowsGuessedOfAll.mono_l k
    refine ⟨?q0, ?q1, ?q2, ?q3, ?q4, ?q5, ?q6, ?q7⟩
    case' q0 => (intros; unfold laws_FnRowsGuessedOfAll.j0)
    case' q1 => (intros; unfold laws_FnRowsGuessedOfAll.j7)
    case' q2 => (intros; unfold laws_FnRowsGuessedOfAll.j1)
    case' q3 => (intros; unfold laws_FnRowsGuessedOfAll.l0)
    case' q4 => (intros; unfold laws_FnRowsGuessedOfAll.j3)
    case' q5 => (intros; unfold laws_FnRowsGuessedOfAll.l1)
    case' q6 => (intros; unfold laws_FnRowsGuessedOfAll.l2)
    case' q7 => (intros; unfold laws_FnRowsGuessedOfAll.l3)
    all_goals repeat' first
     | (with_reducible exact ih0 _ _ _ _ _ _ _ _ _ _ _ _ _ _ _)
     | (with_reducible exact ih1 _)
     | (with_reducible exact ih2 _ _ _ _ _ _ _ _ _ _ _)
     | (with_reducible exact ih3 _ _ _ _ _ _ _ _ _ _ _ _ _)
     | (with_reducible exact ih4 _ _ _ _ _ _ _ _ _ _ _ _ _ _ _)
     | (with_reducible exact ih5 _ _ _ _ _ _ _ _ _ _ _ _ _ _ _ _ _)
     | (with_reducible exact ih6 _ _ _ _ _ _ _ _ _ _ _ _ _ _ _ _)
     | (with_reducible exact ih7 _ _ _ _ _ _ _ _ _ _)
     | (with_reducible exact impl_BestClue.mono _ _ _)
     | (with_reducible exact impl_CountSolutions.mono _ _ _)
     | (with_reducible exact impl_DoesFit.mono _ _ _ _ _ _)
     | (with_reducible exact impl_DropClue.mono _ _ _ _)
     | (with_reducible exact impl_FirstSolution.mono _ _ _)
     | (with_reducible exact impl_IsPuzzle.mono _ _ _)
     | (with_reducible exact impl_IsSolved.mono _ _ _)
     | (with_reducible exact impl_LeftByClues.mono _ _ _)
     | (with_reducible exact impl_NeedlessClues.mono _ _ _)
     | (with_reducible exact impl_ParsePuzzle.mono _ _)
     | (with_reducible exact impl_PuzzleText.mono _ _ _)
     | (with_reducible exact impl_Solutions.mono _ _ _)
     | (with_reducible exact impl_SureSigns.mono _ _ _)
     | (with_reducible exact laws_vHas.mono _ _ _)
     | (with_reducible exact laws_vPuzzle.mono _ _ _ _ _)
     | (with_reducible exact laws_vSame.mono _ _ _)
     | (with_reducible exact laws_vTexts.mono _ _ _)
     | (with_reducible exact spec_BestClue.mono _ _ _)
     | (with_reducible exact spec_CountSolutions.mono _ _ _)
     | (with_reducible exact spec_FirstSolution.mono _ _ _)
     | (with_reducible exact spec_IsPuzzle.mono _ _ _)
     | (with_reducible exact spec_IsSolved.mono _ _ _)
     | (with_reducible exact spec_LeftByClues.mono _ _ _)
     | (with_reducible exact spec_NeedlessClues.mono _ _ _)
     | (with_reducible exact spec_ParsePuzzle.mono _ _)
     | (with_reducible exact spec_PuzzleText.mono _ _ _)
     | (with_reducible exact spec_Solutions.mono _ _ _)
     | (with_reducible exact spec_SureSigns.mono _ _ _)
     | (with_reducible exact LeO.refl _)
     | (with_reducible exact LeO.none _)
     | (with_reducible refine LeO.ite ?_ ?_)
     | (with_reducible refine LeO.bind ?_ (fun _ => ?_))
     | exact ih0 _ _ _ _ _ _ _ _ _ _ _ _ _ _ _
     | exact ih1 _
     | exact ih2 _ _ _ _ _ _ _ _ _ _ _
     | exact ih3 _ _ _ _ _ _ _ _ _ _ _ _ _
     | exact ih4 _ _ _ _ _ _ _ _ _ _ _ _ _ _ _
     | exact ih5 _ _ _ _ _ _ _ _ _ _ _ _ _ _ _ _ _
     | exact ih6 _ _ _ _ _ _ _ _ _ _ _ _ _ _ _ _
     | exact ih7 _ _ _ _ _ _ _ _ _ _
     | exact impl_BestClue.mono _ _ _
     | exact impl_CountSolutions.mono _ _ _
     | exact impl_DoesFit.mono _ _ _ _ _ _
     | exact impl_DropClue.mono _ _ _ _
     | exact impl_FirstSolution.mono _ _ _
     | exact impl_IsPuzzle.mono _ _ _
     | exact impl_IsSolved.mono _ _ _
     | exact impl_LeftByClues.mono _ _ _
     | exact impl_NeedlessClues.mono _ _ _
     | exact impl_ParsePuzzle.mono _ _
     | exact impl_PuzzleText.mono _ _ _
     | exact impl_Solutions.mono _ _ _
     | exact impl_SureSigns.mono _ _ _
     | exact laws_vHas.mono _ _ _
     | exact laws_vPuzzle.mono _ _ _ _ _
     | exact laws_vSame.mono _ _ _
     | exact laws_vTexts.mono _ _ _
     | exact spec_BestClue.mono _ _ _
     | exact spec_CountSolutions.mono _ _ _
     | exact spec_FirstSolution.mono _ _ _
     | exact spec_IsPuzzle.mono _ _ _
     | exact spec_IsSolved.mono _ _ _
     | exact spec_LeftByClues.mono _ _ _
     | exact spec_NeedlessClues.mono _ _ _
     | exact spec_ParsePuzzle.mono _ _
     | exact spec_PuzzleText.mono _ _ _
     | exact spec_Solutions.mono _ _ _
     | exact spec_SureSigns.mono _ _ _
     | exact LeO.none _
     | refine LeO.ite ?_ ?_
     | refine LeO.bind ?_ (fun _ => ?_)
theorem laws_FnRowsGuessedOfAll.mono : ∀ a0 a1 a2 k, LeO (laws_FnRowsGuessedOfAll.f k a0 a1 a2) (laws_FnRowsGuessedOfAll.f (k + 1) a0 a1 a2) := by
  intro a0 a1 a2 k
  obtain ⟨ih0, ih1, ih2, ih3, ih4, ih5, ih6, ih7⟩ := laws_FnRowsGuessedOfAll.mono_l k
  unfold laws_FnRowsGuessedOfAll.f
  repeat' first
      | (with_reducible exact ih0 _ _ _ _ _ _ _ _ _ _ _ _ _ _ _)
      | (with_reducible exact ih1 _)
      | (with_reducible exact ih2 _ _ _ _ _ _ _ _ _ _ _)
      | (with_reducible exact ih3 _ _ _ _ _ _ _ _ _ _ _ _ _)
      | (with_reducible exact ih4 _ _ _ _ _ _ _ _ _ _ _ _ _ _ _)
      | (with_reducible exact ih5 _ _ _ _ _ _ _ _ _ _ _ _ _ _ _ _ _)
      | (with_reducible exact ih6 _ _ _ _ _ _ _ _ _ _ _ _ _ _ _ _)
      | (with_reducible exact ih7 _ _ _ _ _ _ _ _ _ _)
      | (with_reducible exact impl_BestClue.mono _ _ _)
      | (with_reducible exact impl_CountSolutions.mono _ _ _)
      | (with_reducible exact impl_DoesFit.mono _ _ _ _ _ _)
      | (with_reducible exact impl_DropClue.mono _ _ _ _)
      | (with_reducible exact impl_FirstSolution.mono _ _ _)
      | (with_reducible exact impl_IsPuzzle.mono _ _ _)
      | (with_reducible exact impl_IsSolved.mono _ _ _)
      | (with_reducible exact impl_LeftByClues.mono _ _ _)
      | (with_reducible exact impl_NeedlessClues.mono _ _ _)
      | (with_reducible exact impl_ParsePuzzle.mono _ _)
      | (with_reducible exact impl_PuzzleText.mono _ _ _)
      | (with_reducible exact impl_Solutions.mono _ _ _)
      | (with_reducible exact impl_SureSigns.mono _ _ _)
      | (with_reducible exact laws_vHas.mono _ _ _)
      | (with_reducible exact laws_vPuzzle.mono _ _ _ _ _)
      | (with_reducible exact laws_vSame.mono _ _ _)
      | (with_reducible exact laws_vTexts.mono _ _ _)
      | (with_reducible exact spec_BestClue.mono _ _ _)
      | (with_reducible exact spec_CountSolutions.mono _ _ _)
      | (with_reducible exact spec_FirstSolution.mono _ _ _)
      | (with_reducible exact spec_IsPuzzle.mono _ _ _)
      | (with_reducible exact spec_IsSolved.mono _ _ _)
      | (with_reducible exact spec_LeftByClues.mono _ _ _)
      | (with_reducible exact spec_NeedlessClues.mono _ _ _)
      | (with_reducible exact spec_ParsePuzzle.mono _ _)
      | (with_reducible exact spec_PuzzleText.mono _ _ _)
      | (with_reducible exact spec_Solutions.mono _ _ _)
      | (with_reducible exact spec_SureSigns.mono _ _ _)
      | (with_reducible exact LeO.refl _)
      | (with_reducible exact LeO.none _)
      | (with_reducible refine LeO.ite ?_ ?_)
      | (with_reducible refine LeO.bind ?_ (fun _ => ?_))
      | exact ih0 _ _ _ _ _ _ _ _ _ _ _ _ _ _ _
      | exact ih1 _
      | exact ih2 _ _ _ _ _ _ _ _ _ _ _
      | exact ih3 _ _ _ _ _ _ _ _ _ _ _ _ _
      | exact ih4 _ _ _ _ _ _ _ _ _ _ _ _ _ _ _
      | exact ih5 _ _ _ _ _ _ _ _ _ _ _ _ _ _ _ _ _
      | exact ih6 _ _ _ _ _ _ _ _ _ _ _ _ _ _ _ _
      | exact ih7 _ _ _ _ _ _ _ _ _ _
      | exact impl_BestClue.mono _ _ _
      | exact impl_CountSolutions.mono _ _ _
      | exact impl_DoesFit.mono _ _ _ _ _ _
      | exact impl_DropClue.mono _ _ _ _
      | exact impl_FirstSolution.mono _ _ _
      | exact impl_IsPuzzle.mono _ _ _
      | exact impl_IsSolved.mono _ _ _
      | exact impl_LeftByClues.mono _ _ _
      | exact impl_NeedlessClues.mono _ _ _
      | exact impl_ParsePuzzle.mono _ _
      | exact impl_PuzzleText.mono _ _ _
      | exact impl_Solutions.mono _ _ _
      | exact impl_SureSigns.mono _ _ _
      | exact laws_vHas.mono _ _ _
      | exact laws_vPuzzle.mono _ _ _ _ _
      | exact laws_vSame.mono _ _ _
      | exact laws_vTexts.mono _ _ _
      | exact spec_BestClue.mono _ _ _
      | exact spec_CountSolutions.mono _ _ _
      | exact spec_FirstSolution.mono _ _ _
      | exact spec_IsPuzzle.mono _ _ _
      | exact spec_IsSolved.mono _ _ _
      | exact spec_LeftByClues.mono _ _ _
      | exact spec_NeedlessClues.mono _ _ _
      | exact spec_ParsePuzzle.mono _ _
      | exact spec_PuzzleText.mono _ _ _
      | exact spec_Solutions.mono _ _ _
      | exact spec_SureSigns.mono _ _ _
      | exact LeO.none _
      | refine LeO.ite ?_ ?_
      | refine LeO.bind ?_ (fun _ => ?_)
def laws_FnRowsGuessedOfAll.T21 : Bool × List (List Nat × List Nat) := (true, [([], []), ([], []), ([0, 1], [0, 1]), ([2], [2]), ([3], [3]), ([3], [3]), ([4, 5, 3, 3], [3, 4, 5]), ([6, 3], [3, 6]), ([3, 7], [3, 7]), ([8, 6], [8]), ([9], [9]), ([9], [9]), ([10, 11, 9], [9, 10, 11]), ([9, 12], [9, 12]), ([13, 9], [13]), ([14], [14]), ([14], [14]), ([15, 16, 14], [14, 15, 16]), ([14, 17], [14, 17]), ([18, 14], [18]), ([19], [19]), ([19], [19]), ([20, 21, 19], [19, 20, 21]), ([19, 22], [19, 22]), ([23, 19], [23]), ([24], [24]), ([24], [24]), ([25, 26, 24], [24, 25, 26]), ([24, 27], [24, 27]), ([28, 24], [28]), ([29], [29]), ([29], [29]), ([30, 31, 29], [29, 30, 31]), ([29, 32], [29, 32]), ([33, 29], [33]), ([34], [34]), ([34], [34]), ([35, 36, 34], [34, 35, 36]), ([34, 37], [34, 37]), ([38, 34], [38]), ([39], [39]), ([39], [39]), ([40, 41, 39], [39, 40, 41]), ([39, 42], [39, 42]), ([43, 39], [43]), ([44], [44]), ([44], [44]), ([45, 46, 44], [44, 45, 46]), ([44, 47], [44, 47]), ([48, 44], [48]), ([49], [49]), ([49], [49]), ([50, 51, 49], [49, 50, 51]), ([49, 52], [49, 52]), ([53, 49], [53]), ([54], [54]), ([54], [54]), ([55, 56, 54, 54], [54, 55, 56]), ([57, 54], [54, 57]), ([54, 58], [54, 58]), ([59, 57], [59]), ([60], [60]), ([60], [60]), ([61, 62, 60], [60, 61, 62]), ([60, 63], [60, 63]), ([64, 60], [64]), ([65], [65]), ([65], [65]), ([66, 67, 65, 65], [65, 66, 67]), ([68, 65], [65, 68]), ([65, 69], [65, 69]), ([70, 68], [70]), ([71], [71]), ([71], [71]), ([72, 73, 71], [71, 72, 73]), ([71, 74], [71, 74]), ([75, 71], [75]), ([76], [76]), ([76], [76]), ([77, 78, 76], [76, 77, 78]), ([76, 79], [76, 79]), ([80, 76], [80]), ([81], [81]), ([81], [81]), ([82, 83, 81], [81, 82, 83]), ([81, 84], [81, 84]), ([85, 81], [85]), ([86], [86]), ([86], [86]), ([87, 88, 86], [86, 87, 88]), ([86, 89], [86, 89]), ([90, 86], [90]), ([91], [91]), ([91], [91]), ([93, 91, 91], [91, 93]), ([92, 94, 91], [91, 92, 94]), ([91, 95], [91, 95]), ([96, 94], [96]), ([97], [97]), ([98, 97, 97], [97, 98]), ([97], [97]), ([100, 99, 97], [97, 100]), ([99, 101, 97], [97, 99, 101]), ([97, 102], [97, 102]), ([103, 101], [103]), ([104], [104]), ([104], [104]), ([105, 106, 104], [104, 105, 106]), ([104, 107], [104, 107]), ([108, 104], [108]), ([109], [109]), ([109], [109]), ([111, 109, 109], [109, 111]), ([112], [112]), ([113, 112], [112, 113]), ([112, 114, 109], [109, 112, 114]), ([110, 115, 109], [109, 110, 115]), ([109, 116], [109, 116]), ([117, 112], [117]), ([118], [118]), ([118], [118]), ([119, 120, 118], [118, 119, 120]), ([118, 121], [118, 121]), ([122, 118], [122]), ([123], [123]), ([123], [123]), ([124, 125, 123], [123, 124, 125]), ([123, 126], [123, 126]), ([127, 123], [127]), ([128], [128]), ([128], [128]), ([129, 130, 128], [128, 129, 130]), ([128, 131], [128, 131]), ([132, 128], [132]), ([133], [133]), ([133], [133]), ([134, 135, 133], [133, 134, 135]), ([133, 136], [133, 136]), ([137, 133], [137]), ([138], [138]), ([138], [138]), ([140, 138, 138], [138, 140]), ([141], [141]), ([142, 141], [141, 142]), ([143, 141], [141, 143]), ([144, 141], [141, 144]), ([141, 145, 138], [138, 141, 145]), ([139, 146, 138], [138, 139, 146]), ([138, 147], [138, 147]), ([148, 141], [148]), ([149], [149]), ([149], [149]), ([150, 151, 149], [149, 150, 151]), ([149, 152], [149, 152])])
def laws_FnRowsGuessedOfAll.B21 : List Nat := [0, 0, 3, 7, 15, 15, 63, 127, 255, 511, 1023, 1023, 4095, 8191, 16383, 32767, 32767, 131071, 262143, 524287, 1048575, 1048575, 4194303, 8388607, 16777215, 33554431, 33554431, 134217727, 268435455, 536870911, 1073741823, 1073741823, 4294967295, 8589934591, 17179869183, 34359738367, 34359738367, 137438953471, 274877906943, 549755813887, 1099511627775, 1099511627775, 4398046511103, 8796093022207, 17592186044415, 35184372088831, 35184372088831, 140737488355327, 281474976710655, 562949953421311, 1125899906842623, 1125899906842623, 4503599627370495, 9007199254740991, 18014398509481983, 36028797018963967, 36028797018963967, 144115188075855871, 288230376151711743, 576460752303423487, 1152921504606846975, 2305843009213693951, 2305843009213693951, 9223372036854775807, 18446744073709551615, 36893488147419103231, 73786976294838206463, 73786976294838206463, 295147905179352825855, 590295810358705651711, 1180591620717411303423, 2361183241434822606847, 4722366482869645213695, 4722366482869645213695, 18889465931478580854783, 37778931862957161709567, 75557863725914323419135, 151115727451828646838271, 151115727451828646838271, 604462909807314587353087, 1208925819614629174706175, 2417851639229258349412351, 4835703278458516698824703, 4835703278458516698824703, 19342813113834066795298815, 38685626227668133590597631, 77371252455336267181195263, 154742504910672534362390527, 154742504910672534362390527, 618970019642690137449562111, 1237940039285380274899124223, 2475880078570760549798248447, 4951760157141521099596496895, 4951760157141521099596496895, 14855280471424563298789490687, 39614081257132168796771975167, 79228162514264337593543950335, 158456325028528675187087900671, 316912650057057350374175801343, 633825300114114700748351602687, 316912650057057350374175801343, 2535301200456458802993406410751, 5070602400912917605986812821503, 10141204801825835211973625643007, 20282409603651670423947251286015, 40564819207303340847894502572031, 40564819207303340847894502572031, 162259276829213363391578010288127, 324518553658426726783156020576255, 649037107316853453566312041152511, 1298074214633706907132624082305023, 1298074214633706907132624082305023, 3894222643901120721397872246915071, 9086519502435948349928368576135167, 19471113219505603606989361234575359, 40240300653644914121111346551455743, 83076749736557242056487941267521535, 166153499473114484112975882535043071, 332306998946228968225951765070086143, 664613997892457936451903530140172287, 664613997892457936451903530140172287, 2658455991569831745807614120560689151, 5316911983139663491615228241121378303, 10633823966279326983230456482242756607, 21267647932558653966460912964485513215, 21267647932558653966460912964485513215, 85070591730234615865843651857942052863, 170141183460469231731687303715884105727, 340282366920938463463374607431768211455, 680564733841876926926749214863536422911, 680564733841876926926749214863536422911, 2722258935367507707706996859454145691647, 5444517870735015415413993718908291383295, 10889035741470030830827987437816582766591, 21778071482940061661655974875633165533183, 21778071482940061661655974875633165533183, 87112285931760246646623899502532662132735, 174224571863520493293247799005065324265471, 348449143727040986586495598010130648530943, 696898287454081973172991196020261297061887, 696898287454081973172991196020261297061887, 2090694862362245919518973588060783891185663, 4878288012178573812210938372141829079433215, 10453474311811229597594867940303919455928319, 21603846911076541168362727076628100208918527, 43904592109607164309898445349276461714898943, 88506082506668410592969881894573184726859775, 178405961588244985132285746181186892047843327, 356811923176489970264571492362373784095686655, 713623846352979940529142984724747568191373311, 1427247692705959881058285969449495136382746623, 1427247692705959881058285969449495136382746623, 5708990770823839524233143877797980545530986495, 11417981541647679048466287755595961091061972991]
theorem laws_FnRowsGuessedOfAll.tab21 : rtab .any (opsOf Tryz.f3 21) = laws_FnRowsGuessedOfAll.T21 := by kernel_rfl
theorem laws_FnRowsGuessedOfAll.bits21 : waitsOk laws_FnRowsGuessedOfAll.T21.2 laws_FnRowsGuessedOfAll.B21 = true := by kernel_rfl
def laws_FnRowsGuessedOfAll.T24 : Bool × List (List Nat × List Nat) := (true, [([], []), ([0], [0]), ([], []), ([1, 2], [1, 2]), ([3], [3]), ([4], [4]), ([5, 4, 4], [4, 5]), ([6], [6]), ([6], [6]), ([8, 6], [6, 8]), ([9, 6], [6, 9]), ([7, 10, 6], [6, 7, 10]), ([6, 11, 4], [4, 6, 11]), ([4, 12], [4, 12]), ([13, 6], [13]), ([14], [14]), ([14], [14]), ([16, 14], [14, 16]), ([15, 17, 14], [14, 15, 17]), ([14, 18], [14, 18]), ([19, 14], [19]), ([20], [20]), ([21, 20], [20, 21]), ([20], [20]), ([23, 20], [20, 23]), ([24, 20], [20, 24]), ([25, 20], [20, 25]), ([22, 26, 20], [20, 22, 26]), ([20, 27], [20, 27]), ([28, 20], [28]), ([29], [29]), ([30, 29], [29, 30]), ([31, 29], [29, 31]), ([29], [29]), ([33, 29], [29, 33]), ([34, 29], [29, 34]), ([32, 35, 29], [29, 32, 35]), ([29, 36], [29, 36]), ([37, 29], [37]), ([38], [38]), ([38], [38]), ([40, 38], [38, 40]), ([41, 38], [38, 41]), ([39, 42, 38], [38, 39, 42]), ([43, 38], [38, 43]), ([38], [38]), ([44, 45, 38], [38, 44, 45]), ([38, 46], [38, 46]), ([47, 38], [47]), ([48], [48]), ([49, 48, 48], [48, 49]), ([50], [50]), ([50], [50]), ([51, 52, 50], [50, 51, 52]), ([50, 53, 48], [48, 50, 53]), ([48, 54], [48, 54]), ([55, 50], [55]), ([56], [56]), ([57, 56, 56], [56, 57]), ([58], [58]), ([59, 58], [58, 59]), ([58], [58]), ([61, 58], [58, 61]), ([60, 62, 58], [58, 60, 62]), ([58, 63, 56], [56, 58, 63]), ([56, 64], [56, 64])])
def laws_FnRowsGuessedOfAll.B24 : List Nat := [0, 1, 0, 7, 15, 31, 63, 127, 127, 383, 895, 2047, 4095, 8191, 16383, 32767, 32767, 98303, 262143, 524287, 1048575, 2097151, 4194303, 2097151, 10485759, 27262975, 60817407, 134217727, 268435455, 536870911, 1073741823, 2147483647, 4294967295, 1073741823, 9663676415, 26843545599, 68719476735, 137438953471, 274877906943, 549755813887, 549755813887, 1649267441663, 3848290697215, 8796093022207, 17592186044415, 549755813887, 70368744177663, 140737488355327, 281474976710655, 562949953421311, 1125899906842623, 2251799813685247, 2251799813685247, 9007199254740991, 18014398509481983, 36028797018963967, 72057594037927935, 144115188075855871, 288230376151711743, 576460752303423487, 1152921504606846975, 576460752303423487, 2882303761517117439, 9223372036854775807, 18446744073709551615, 36893488147419103231]
theorem laws_FnRowsGuessedOfAll.tab24 : rtab .any (opsOf Tryz.f3 24) = laws_FnRowsGuessedOfAll.T24 := by kernel_rfl
theorem laws_FnRowsGuessedOfAll.bits24 : waitsOk laws_FnRowsGuessedOfAll.T24.2 laws_FnRowsGuessedOfAll.B24 = true := by kernel_rfl
def laws_FnRowsGuessedOfAll.T41 : Bool × List (List Nat × List Nat) := (true, [([], []), ([], []), ([0, 1], [0, 1]), ([2], [2]), ([3], [3]), ([4], [4]), ([4], [4]), ([5, 6, 4], [4, 5, 6]), ([4], [4]), ([4], [4]), ([8, 9, 4], [4, 8, 9]), ([7, 10, 4], [4, 7, 10]), ([4, 11], [4, 11])])
def laws_FnRowsGuessedOfAll.B41 : List Nat := [0, 0, 3, 7, 15, 31, 31, 127, 31, 31, 799, 2047, 4095]
theorem laws_FnRowsGuessedOfAll.tab41 : rtab .any (opsOf Tryz.f3 41) = laws_FnRowsGuessedOfAll.T41 := by kernel_rfl
theorem laws_FnRowsGuessedOfAll.bits41 : waitsOk laws_FnRowsGuessedOfAll.T41.2 laws_FnRowsGuessedOfAll.B41 = true := by kernel_rfl
def laws_FnRowsGuessedOfAll.T49 : Bool × List (List Nat × List Nat) := (true, [([], []), ([0], [0]), ([1], [1]), ([2], [2]), ([3, 2], [2, 3]), ([2, 4], [2, 4]), ([5, 2], [5]), ([6], [6]), ([6], [6]), ([7, 8, 6, 6], [6, 7, 8]), ([6], [6]), ([6], [6]), ([10, 11, 6], [6, 10, 11]), ([9, 12, 6], [6, 9, 12]), ([6, 13], [6, 13]), ([14, 9], [14]), ([15], [15]), ([15], [15]), ([17, 15], [15, 17]), ([16, 18, 15], [15, 16, 18]), ([19, 15], [15, 19]), ([15], [15]), ([15], [15]), ([21, 22, 15], [15, 21, 22]), ([23, 15], [15, 23]), ([20, 24, 15], [15, 20, 24]), ([15, 25], [15, 25]), ([26, 15], [26]), ([27], [27]), ([28, 27], [27, 28]), ([27, 29], [27, 29]), ([30, 27], [30]), ([31], [31]), ([31], [31]), ([33, 31], [31, 33]), ([34, 31], [31, 34]), ([32, 35, 31], [31, 32, 35]), ([31, 36], [31, 36])])
def laws_FnRowsGuessedOfAll.B49 : List Nat := [0, 1, 3, 7, 15, 31, 63, 127, 127, 511, 127, 127, 3199, 8191, 16383, 32767, 65535, 65535, 196607, 524287, 1048575, 65535, 65535, 6356991, 14745599, 33554431, 67108863, 134217727, 268435455, 536870911, 1073741823, 2147483647, 4294967295, 4294967295, 12884901887, 30064771071, 68719476735, 137438953471]
theorem laws_FnRowsGuessedOfAll.tab49 : rtab .any (opsOf Tryz.f3 49) = laws_FnRowsGuessedOfAll.T49 := by kernel_rfl
theorem laws_FnRowsGuessedOfAll.bits49 : waitsOk laws_FnRowsGuessedOfAll.T49.2 laws_FnRowsGuessedOfAll.B49 = true := by kernel_rfl
end Go.Proofs.YtfaakdokcldnkaaGreatDoor.PFnRowsGuessedOfAll
