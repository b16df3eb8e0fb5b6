-- Laid by xprint, a program of this session that runs over the kit's print.
import Derived.Test.YthjbmojacgkdcaaGreatDoorPFnRowsHiddenx18
namespace Go.Proofs.YthjbmojacgkdcaaGreatDoor.PFnRowsHidden
open Go.RowKit Go.Proofs.YthjbmojacgkdcaaGreatDoorW.PrintWords Go.Proofs.YthjbmojacgkdcaaGreatDoorW.PrintLast Go.Proofs.YthjbmojacgkdcaaGreatDoorW.PrintMore Go.Proofs.YthjbmojacgkdcaaGreatDoor.Sq
attribute [local go_sem] max2_int min2_int max_two min_two max_three min_three max_four min_four   -- for this text's walks alone
set_option linter.unusedVariables false
set_option linter.unusedSimpArgs false

attribute [local go_sem high] eqA37
/-! ### laws_FnRowsHidden: function 3 -/
mutual
def laws_FnRowsHidden.j3 : Nat → List Int → Option (Bool)
  | 0, _ => none
  | k + 1, x1 => (spec_DrawHarderPuzzle.f k x1).bind fun bt706 => ((impl_HarderPuzzle.f k bt706.1 bt706.2).bind fun bt711 => ((spec_HarderPuzzle.f k bt706.1 bt706.2).bind fun bt717 => ((impl_IsSolved.f k bt706.1 bt706.2).bind fun bt723 => (if (bt711.2.2 != bt717.2.2) = true then (some false) else ((laws_vPuzzle.f k bt711.1 bt711.2.1 bt717.1 bt717.2.1).bind fun t725 => (if t725 = true then (if bt723.2 = true then (laws_FnRowsHidden.j4 k x1 bt711.2.2 (bt711.2.2 != bt723.1) bt706.1 bt706.2 bt711.1 bt711.2.1) else (laws_FnRowsHidden.j4 k x1 bt711.2.2 (bt711.2.2 != false) bt706.1 bt706.2 bt711.1 bt711.2.1)) else (some false)))))))
def laws_FnRowsHidden.j4 : Nat → List Int → Bool → Bool → Int → List (S37) → Int → List (S37) → Option (Bool)
  | 0, _, _, _, _, _, _, _ => none
  | k + 1, x1, x38, x282, x711000, x711001, x717000, x717001 => if x282 = true then (some false) else (if x38 = true then ((impl_Solutions.f k x711000 x711001).bind fun bt726 => ((impl_Solutions.f k x717000 x717001).bind fun bt730 => ((impl_NeedlessClues.f k x717000 x717001).bind fun bt734 => (if bt726.2 = true then (if bt730.2 = true then ((laws_vTexts.f k bt726.1 bt730.1).bind fun t738 => (if t738 = true then (if bt734.2 = true then (if (bt734.1.length : Int) = 0 then (if (x717001.length : Int) > (x711001.length : Int) then (some false) else (laws_FnRowsHidden.j5 k x1)) else (some false)) else (some false)) else (some false))) else (some false)) else (some false))))) else (laws_FnRowsHidden.j5 k x1))
def laws_FnRowsHidden.j5 : Nat → List Int → Option (Bool)
  | 0, _ => none
  | k + 1, x1 => (spec_DrawAddClue.f k x1).bind fun bt739 => ((impl_AddClue.f k bt739.1 bt739.2.1 bt739.2.2.1 bt739.2.2.2.1 bt739.2.2.2.2.1 bt739.2.2.2.2.2).bind fun bt749 => ((spec_AddClue.f k bt739.1 bt739.2.1 bt739.2.2.1 bt739.2.2.2.1 bt739.2.2.2.2.1 bt739.2.2.2.2.2).bind fun bt755 => ((spec_DrawDropClue.f k x1).bind fun bt761 => ((impl_DropClue.f k bt761.1 bt761.2.1 bt761.2.2).bind fun bt767 => ((spec_DropClue.f k bt761.1 bt761.2.1 bt761.2.2).bind fun bt773 => ((spec_DrawDoesFit.f k x1).bind fun bt779 => ((impl_DoesFit.f k bt779.1 bt779.2.1 bt779.2.2.1 bt779.2.2.2.1 bt779.2.2.2.2).bind fun bt785 => ((spec_DoesFit.f k bt779.1 bt779.2.1 bt779.2.2.1 bt779.2.2.2.1 bt779.2.2.2.2).bind fun bt787 => ((spec_DrawIsClue.f k x1).bind fun bt789 => (if (bt749.2.2 != bt755.2.2) = true then (some false) else ((laws_vPuzzle.f k bt749.1 bt749.2.1 bt755.1 bt755.2.1).bind fun t795 => (if t795 = true then (if (bt767.2.2 != bt773.2.2) = true then (some false) else ((laws_vPuzzle.f k bt767.1 bt767.2.1 bt773.1 bt773.2.1).bind fun t796 => (if t796 = true then (if (bt785.2 != bt787.2) = true then (some false) else (if (bt785.1 != bt787.1) = true then (some false) else ((impl_IsClue.f bt789.1 bt789.2.1 bt789.2.2.1 bt789.2.2.2.1 bt789.2.2.2.2).bind fun t797 => ((spec_IsClue.f bt789.1 bt789.2.1 bt789.2.2.1 bt789.2.2.2.1 bt789.2.2.2.2).bind fun t798 => (if (t797 != t798) = true then (some false) else (if bt785.2 = true then ((impl_IsClue.f (bt779.2.2.2.2.size : Int) bt779.1 bt779.2.1 bt779.2.2.1 bt779.2.2.2.1).bind fun t799 => (laws_FnRowsHidden.j6 k bt749.2.2 bt761.2.2 bt767.2.2 (!t799) bt739.1 bt739.2.1 bt739.2.2.1 bt739.2.2.2.1 bt739.2.2.2.2.1 bt739.2.2.2.2.2 bt749.1 bt749.2.1 bt761.1 bt761.2.1 bt767.1 bt767.2.1)) else (laws_FnRowsHidden.j6 k bt749.2.2 bt761.2.2 bt767.2.2 false bt739.1 bt739.2.1 bt739.2.2.1 bt739.2.2.2.1 bt739.2.2.2.2.1 bt739.2.2.2.2.2 bt749.1 bt749.2.1 bt761.1 bt761.2.1 bt767.1 bt767.2.1))))))) else (some false)))) else (some false)))))))))))))
def laws_FnRowsHidden.j6 : Nat → Bool → Int → Bool → Bool → Int → List (S37) → Int → Int → Int → Int → Int → List (S37) → Int → List (S37) → Int → List (S37) → Option (Bool)
  | 0, _, _, _, _, _, _, _, _, _, _, _, _, _, _, _, _ => none
  | k + 1, x52, x56, x58, x433, x748000, x748001, x749000, x749001, x749002, x749003, x755000, x755001, x767000, x767001, x773000, x773001 => if x433 = true then (some false) else (if x52 = true then ((impl_DropClue.f k x755000 x755001 (x748001.length : Int)).bind fun bt800 => (if bt800.2.2 = true then ((laws_vPuzzle.f k bt800.1 bt800.2.1 x748000 x748001).bind fun t806 => (if t806 = true then (if 0 ≤ (x748001.length : Int) then (if (x748001.length : Int) < (x755001.length : Int) then (if (!(((rd_T37 x755001 (x748001.length : Int)).f0) == x749000) || (!(((rd_T37 x755001 (x748001.length : Int)).f1) == x749001) || (!(((rd_T37 x755001 (x748001.length : Int)).f2) == x749002) || (!(((rd_T37 x755001 (x748001.length : Int)).f3) == x749003))))) = true then (some false) else (laws_FnRowsHidden.j7 k x56 x58 x767000 x767001 x773000 x773001)) else (none)) else (none)) else (some false))) else (some false))) else (laws_FnRowsHidden.j7 k x56 x58 x767000 x767001 x773000 x773001))
def laws_FnRowsHidden.j7 : Nat → Int → Bool → Int → List (S37) → Int → List (S37) → Option (Bool)
  | 0, _, _, _, _, _, _ => none
  | k + 1, x56, x58, x767000, x767001, x773000, x773001 => if x58 = true then (laws_FnRowsHidden.j8 k x56 (x56 == (wrap64 ((x767001.length : Int) - 1))) x767000 x767001 x773000 x773001) else (laws_FnRowsHidden.j8 k x56 false x767000 x767001 x773000 x773001)
def laws_FnRowsHidden.j8 : Nat → Int → Bool → Int → List (S37) → Int → List (S37) → Option (Bool)
  | 0, _, _, _, _, _, _ => none
  | k + 1, x56, x470, x767000, x767001, x773000, x773001 => if x470 = true then (if 0 ≤ x56 then (if x56 < (x767001.length : Int) then ((impl_AddClue.f k x773000 x773001 ((rd_T37 x767001 x56).f0) ((rd_T37 x767001 x56).f1) ((rd_T37 x767001 x56).f2) ((rd_T37 x767001 x56).f3)).bind fun bt809 => (if bt809.2.2 = true then ((laws_vPuzzle.f k bt809.1 bt809.2.1 x767000 x767001).bind fun t815 => (some t815)) else (some false))) else (none)) else (none)) else (some true)
def laws_FnRowsHidden.l0 : Nat → List Int → ByteArray → List Int → Int → Int → Int → List (S37) → Option (Bool)
  | 0, _, _, _, _, _, _, _ => none
  | k + 1, x1, x5, x174, x175, x176, x669000, x669001 => if x176 < x175 then (if 0 ≤ x176 then (if x176 < (x174.length : Int) then ((impl_DoesFit.f k 4 x176 0 (rd x174 x176) x5).bind fun bt692 => (if bt692.2 = true then (if bt692.1 = true then (laws_FnRowsHidden.l0 k x1 x5 x174 x175 (wrap64 (x176 + 1)) x669000 x669001) else (some false)) else (some false))) else (none)) else (none)) else ((impl_RowAfter.f k x5 2).bind fun bt694 => (laws_FnRowsHidden.l1 k x1 x5 bt694.1 bt694.2 x669000 x669001 0 bt694.1))
def laws_FnRowsHidden.l1 : Nat → List Int → ByteArray → ByteArray → Bool → Int → List (S37) → Int → ByteArray → Option (Bool)
  | 0, _, _, _, _, _, _, _, _ => none
  | k + 1, x1, x5, x26, x27, x669000, x669001, x697000, x697001 => if x697000 < (x697001.size : Int) then (if 0 ≤ x697000 then (if bt x697001 x697000 < 128 then (if x697000 < (x26.size : Int) then (if (bt x26 x697000) = 62 then ((impl_DoesFit.f k 0 x697000 2 1 x5).bind fun bt698 => (if x27 = true then (if bt698.2 = true then (if bt698.1 = true then (laws_FnRowsHidden.l1 k x1 x5 x26 x27 x669000 x669001 (x697000 + 1) x697001) else (some false)) else (some false)) else (some false))) else ((impl_DoesFit.f k 0 x697000 2 0 x5).bind fun bt700 => (if x27 = true then (if bt700.2 = true then (if bt700.1 = true then (laws_FnRowsHidden.l1 k x1 x5 x26 x27 x669000 x669001 (x697000 + 1) x697001) else (some false)) else (some false)) else (some false)))) else (none)) else (none)) else (none)) else (laws_FnRowsHidden.l2 k x1 x5 x669001 (x669001.length : Int) 0)
def laws_FnRowsHidden.l2 : Nat → List Int → ByteArray → List (S37) → Int → Int → Option (Bool)
  | 0, _, _, _, _, _ => none
  | k + 1, x1, x5, x230, x231, x232 => if x232 < x231 then (if 0 ≤ x232 then (if x232 < (x230.length : Int) then ((impl_DoesFit.f k ((rd_T37 x230 x232).f0) ((rd_T37 x230 x232).f1) ((rd_T37 x230 x232).f2) ((rd_T37 x230 x232).f3) x5).bind fun bt704 => (if bt704.2 = true then (if bt704.1 = true then (laws_FnRowsHidden.l2 k x1 x5 x230 x231 (wrap64 (x232 + 1))) else (some false)) else (some false))) else (none)) else (none)) else (laws_FnRowsHidden.j3 k x1)
end
def laws_FnRowsHidden.f (k : Nat) (l0 : List Int) (l1 : List Int) : Option (Bool) := (laws_big.f l0 l1).bind fun t659 => (if t659 = true then (some true) else ((spec_DrawMakePuzzle.f k l0).bind fun bt660 => ((impl_MakePuzzle.f k bt660.1 bt660.2.1 bt660.2.2).bind fun bt663 => ((spec_MakePuzzle.f k bt660.1 bt660.2.1 bt660.2.2).bind fun bt669 => (if (bt663.2.2 != bt669.2.2) = true then (some false) else ((laws_vPuzzle.f k bt663.1 bt663.2.1 bt669.1 bt669.2.1).bind fun t675 => (if t675 = true then (if bt663.2.2 = true then ((impl_TicksToRest.f k bt660.1).bind fun bt676 => ((impl_DoesFit.f k 2 0 0 bt676.1 bt660.1).bind fun bt678 => ((impl_FacingPairs.f k bt660.1).bind fun bt680 => ((impl_DoesFit.f k 3 0 0 (bt680.1.length : Int) bt660.1).bind fun bt684 => ((impl_TurnsOfEach.f k bt660.1).bind fun bt686 => ((impl_IsPuzzle.f k bt663.1 bt663.2.1).bind fun t690 => (if t690 = true then (if (bt663.2.1.length : Int) = bt660.2.1 then (if bt676.2 = true then (if bt678.2 = true then (if bt678.1 = true then (if bt680.2 = true then (if bt684.2 = true then (if bt684.1 = true then (if bt686.2 = true then (laws_FnRowsHidden.l0 k l1 bt660.1 bt686.1 (bt686.1.length : Int) 0 bt663.1 bt663.2.1) else (some false)) else (some false)) else (some false)) else (some false)) else (some false)) else (some false)) else (some false)) else (some false)) else (some false)))))))) else (laws_FnRowsHidden.j3 k l1)) else (some false))))))))
theorem laws_FnRowsHidden.mono_l : ∀ k, (∀ y0, LeO (laws_FnRowsHidden.j3 k y0) (laws_FnRowsHidden.j3 (k + 1) y0)) ∧ (∀ y0 y1 y2 y3 y4 y5 y6, LeO (laws_FnRowsHidden.j4 k y0 y1 y2 y3 y4 y5 y6) (laws_FnRowsHidden.j4 (k + 1) y0 y1 y2 y3 y4 y5 y6)) ∧ (∀ y0, LeO (laws_FnRowsHidden.j5 k y0) (laws_FnRowsHidden.j5 (k + 1) y0)) ∧ (∀ y0 y1 y2 y3 y4 y5 y6 y7 y8 y9 y10 y11 y12 y13 y14 y15, LeO (laws_FnRowsHidden.j6 k y0 y1 y2 y3 y4 y5 y6 y7 y8 y9 y10 y11 y12 y13 y14 y15) (laws_FnRowsHidden.j6 (k + 1) y0 y1 y2 y3 y4 y5 y6 y7 y8 y9 y10 y11 y12 y13 y14 y15)) ∧ (∀ y0 y1 y2 y3 y4 y5, LeO (laws_FnRowsHidden.j7 k y0 y1 y2 y3 y4 y5) (laws_FnRowsHidden.j7 (k + 1) y0 y1 y2 y3 y4 y5)) ∧ (∀ y0 y1 y2 y3 y4 y5, LeO (laws_FnRowsHidden.j8 k y0 y1 y2 y3 y4 y5) (laws_FnRowsHidden.j8 (k + 1) y0 y1 y2 y3 y4 y5)) ∧ (∀ y0 y1 y2 y3 y4 y5 y6, LeO (laws_FnRowsHidden.l0 k y0 y1 y2 y3 y4 y5 y6) (laws_FnRowsHidden.l0 (k + 1) y0 y1 y2 y3 y4 y5 y6)) ∧ (∀ y0 y1 y2 y3 y4 y5 y6 y7, LeO (laws_FnRowsHidden.l1 k y0 y1 y2 y3 y4 y5 y6 y7) (laws_FnRowsHidden.l1 (k + 1) y0 y1 y2 y3 y4 y5 y6 y7)) ∧ (∀ y0 y1 y2 y3 y4, LeO (laws_FnRowsHidden.l2 k y0 y1 y2 y3 y4) (laws_FnRowsHidden.l2 (k + 1) y0 y1 y2 y3 y4))
  | 0 => ⟨fun _ r h => by simp [laws_FnRowsHidden.j3] at h, fun _ _ _ _ _ _ _ r h => by simp [laws_FnRowsHidden.j4] at h, fun _ r h => by simp [laws_FnRowsHidden.j5] at h, fun _ _ _ _ _ _ _ _ _ _ _ _ _ _ _ _ r h => by simp [laws_FnRowsHidden.j6] at h, fun _ _ _ _ _ _ r h => by simp [laws_FnRowsHidden.j7] at h, fun _ _ _ _ _ _ r h => by simp [laws_FnRowsHidden.j8] at h, fun _ _ _ _ _ _ _ r h => by simp [laws_FnRowsHidden.l0] at h, fun _ _ _ _ _ _ _ _ r h => by simp [laws_FnRowsHidden.l1] at h, fun _ _ _ _ _ r h => by simp [laws_FnRowsHidden.l2] at h⟩
  | k + 1 => by
    obtain ⟨ih0, ih1, ih2, ih3, ih4, ih5, ih6, ih7, ih8⟩ := laws_FnRowsHidden.mono_l k
    refine ⟨?q0, ?q1, ?q2, ?q3, ?q4, ?q5, ?q6, ?q7, ?q8⟩
    case' q0 => (intros; unfold laws_FnRowsHidden.j3)
    case' q1 => (intros; unfold laws_FnRowsHidden.j4)
    case' q2 => (intros; unfold laws_FnRowsHidden.j5)
    case' q3 => (intros; unfold laws_FnRowsHidden.j6)
    case' q4 => (intros; unfold laws_FnRowsHidden.j7)
    case' q5 => (intros; unfold laws_FnRowsHidden.j8)
    case' q6 => (intros; unfold laws_FnRowsHidden.l0)
    case' q7 => (intros; unfold laws_FnRowsHidden.l1)
    case' q8 => (intros; unfold laws_FnRowsHidden.l2)
    all_goals repeat' first
     | (with_reducible exact ih0 _)
     | (with_reducible exact ih1 _ _ _ _ _ _ _)
     | (with_reducible exact ih2 _)
     | (with_reducible exact ih3 _ _ _ _ _ _ _ _ _ _ _ _ _ _ _ _)
     | (with_reducible exact ih4 _ _ _ _ _ _)
     | (with_reducible exact ih5 _ _ _ _ _ _)
     | (with_reducible exact ih6 _ _ _ _ _ _ _)
     | (with_reducible exact ih7 _ _ _ _ _ _ _ _)
     | (with_reducible exact ih8 _ _ _ _ _)
     | (with_reducible exact impl_AddClue.mono _ _ _ _ _ _ _)
     | (with_reducible exact impl_DoesFit.mono _ _ _ _ _ _)
     | (with_reducible exact impl_DropClue.mono _ _ _ _)
     | (with_reducible exact impl_FacingPairs.mono _ _)
     | (with_reducible exact impl_HarderPuzzle.mono _ _ _)
     | (with_reducible exact impl_IsPuzzle.mono _ _ _)
     | (with_reducible exact impl_IsSolved.mono _ _ _)
     | (with_reducible exact impl_MakePuzzle.mono _ _ _ _)
     | (with_reducible exact impl_NeedlessClues.mono _ _ _)
     | (with_reducible exact impl_RowAfter.mono _ _ _)
     | (with_reducible exact impl_Solutions.mono _ _ _)
     | (with_reducible exact impl_TicksToRest.mono _ _)
     | (with_reducible exact impl_TurnsOfEach.mono _ _)
     | (with_reducible exact laws_vPuzzle.mono _ _ _ _ _)
     | (with_reducible exact laws_vTexts.mono _ _ _)
     | (with_reducible exact spec_AddClue.mono _ _ _ _ _ _ _)
     | (with_reducible exact spec_DoesFit.mono _ _ _ _ _ _)
     | (with_reducible exact spec_DrawAddClue.mono _ _)
     | (with_reducible exact spec_DrawDoesFit.mono _ _)
     | (with_reducible exact spec_DrawDropClue.mono _ _)
     | (with_reducible exact spec_DrawHarderPuzzle.mono _ _)
     | (with_reducible exact spec_DrawIsClue.mono _ _)
     | (with_reducible exact spec_DrawMakePuzzle.mono _ _)
     | (with_reducible exact spec_DropClue.mono _ _ _ _)
     | (with_reducible exact spec_HarderPuzzle.mono _ _ _)
     | (with_reducible exact spec_MakePuzzle.mono _ _ _ _)
     | (with_reducible exact LeO.refl _)
     | (with_reducible exact LeO.none _)
     | (with_reducible refine LeO.ite ?_ ?_)
     | (with_reducible refine LeO.bind ?_ (fun _ => ?_))
     | exact ih0 _
     | exact ih1 _ _ _ _ _ _ _
     | exact ih2 _
     | exact ih3 _ _ _ _ _ _ _ _ _ _ _ _ _ _ _ _
     | exact ih4 _ _ _ _ _ _
     | exact ih5 _ _ _ _ _ _
     | exact ih6 _ _ _ _ _ _ _
     | exact ih7 _ _ _ _ _ _ _ _
     | exact ih8 _ _ _ _ _
     | exact impl_AddClue.mono _ _ _ _ _ _ _
     | exact impl_DoesFit.mono _ _ _ _ _ _
     | exact impl_DropClue.mono _ _ _ _
     | exact impl_FacingPairs.mono _ _
     | exact impl_HarderPuzzle.mono _ _ _
     | exact impl_IsPuzzle.mono _ _ _
     | exact impl_IsSolved.mono _ _ _
     | exact impl_MakePuzzle.mono _ _ _ _
     | exact impl_NeedlessClues.mono _ _ _
     | exact impl_RowAfter.mono _ _ _
     | exact impl_Solutions.mono _ _ _
     | exact impl_TicksToRest.mono _ _
     | exact impl_TurnsOfEach.mono _ _
     | exact laws_vPuzzle.mono _ _ _ _ _
     | exact laws_vTexts.mono _ _ _
     | exact spec_AddClue.mono _ _ _ _ _ _ _
     | exact spec_DoesFit.mono _ _ _ _ _ _
     | exact spec_DrawAddClue.mono _ _
     | exact spec_DrawDoesFit.mono _ _
     | exact spec_DrawDropClue.mono _ _
     | exact spec_DrawHarderPuzzle.mono _ _
     | exact spec_DrawIsClue.mono _ _
     | exact spec_DrawMakePuzzle.mono _ _
     | exact spec_DropClue.mono _ _ _ _
     | exact spec_HarderPuzzle.mono _ _ _
     | exact spec_MakePuzzle.mono _ _ _ _
     | exact LeO.none _
     | refine LeO.ite ?_ ?_
     | refine LeO.bind ?_ (fun _ => ?_)
theorem laws_FnRowsHidden.mono : ∀ a0 a1 k, LeO (laws_FnRowsHidden.f k a0 a1) (laws_FnRowsHidden.f (k + 1) a0 a1) := by
  intro a0 a1 k
  obtain ⟨ih0, ih1, ih2, ih3, ih4, ih5, ih6, ih7, ih8⟩ := laws_FnRowsHidden.mono_l k
  unfold laws_FnRowsHidden.f
  repeat' first
      | (with_reducible exact ih0 _)
      | (with_reducible exact ih1 _ _ _ _ _ _ _)
      | (with_reducible exact ih2 _)
      | (with_reducible exact ih3 _ _ _ _ _ _ _ _ _ _ _ _ _ _ _ _)
      | (with_reducible exact ih4 _ _ _ _ _ _)
      | (with_reducible exact ih5 _ _ _ _ _ _)
      | (with_reducible exact ih6 _ _ _ _ _ _ _)
      | (with_reducible exact ih7 _ _ _ _ _ _ _ _)
      | (with_reducible exact ih8 _ _ _ _ _)
      | (with_reducible exact impl_AddClue.mono _ _ _ _ _ _ _)
      | (with_reducible exact impl_DoesFit.mono _ _ _ _ _ _)
      | (with_reducible exact impl_DropClue.mono _ _ _ _)
      | (with_reducible exact impl_FacingPairs.mono _ _)
      | (with_reducible exact impl_HarderPuzzle.mono _ _ _)
      | (with_reducible exact impl_IsPuzzle.mono _ _ _)
      | (with_reducible exact impl_IsSolved.mono _ _ _)
      | (with_reducible exact impl_MakePuzzle.mono _ _ _ _)
      | (with_reducible exact impl_NeedlessClues.mono _ _ _)
      | (with_reducible exact impl_RowAfter.mono _ _ _)
      | (with_reducible exact impl_Solutions.mono _ _ _)
      | (with_reducible exact impl_TicksToRest.mono _ _)
      | (with_reducible exact impl_TurnsOfEach.mono _ _)
      | (with_reducible exact laws_vPuzzle.mono _ _ _ _ _)
      | (with_reducible exact laws_vTexts.mono _ _ _)
      | (with_reducible exact spec_AddClue.mono _ _ _ _ _ _ _)
      | (with_reducible exact spec_DoesFit.mono _ _ _ _ _ _)
      | (with_reducible exact spec_DrawAddClue.mono _ _)
      | (with_reducible exact spec_DrawDoesFit.mono _ _)
      | (with_reducible exact spec_DrawDropClue.mono _ _)
      | (with_reducible exact spec_DrawHarderPuzzle.mono _ _)
      | (with_reducible exact spec_DrawIsClue.mono _ _)
      | (with_reducible exact spec_DrawMakePuzzle.mono _ _)
      | (with_reducible exact spec_DropClue.mono _ _ _ _)
      | (with_reducible exact spec_HarderPuzzle.mono _ _ _)
      | (with_reducible exact spec_MakePuzzle.mono _ _ _ _)
      | (with_reducible exact LeO.refl _)
      | (with_reducible exact LeO.none _)
      | (with_reducible refine LeO.ite ?_ ?_)
      | (with_reducible refine LeO.bind ?_ (fun _ => ?_))
      | exact ih0 _
      | exact ih1 _ _ _ _ _ _ _
      | exact ih2 _
      | exact ih3 _ _ _ _ _ _ _ _ _ _ _ _ _ _ _ _
      | exact ih4 _ _ _ _ _ _
      | exact ih5 _ _ _ _ _ _
      | exact ih6 _ _ _ _ _ _ _
      | exact ih7 _ _ _ _ _ _ _ _
      | exact ih8 _ _ _ _ _
      | exact impl_AddClue.mono _ _ _ _ _ _ _
      | exact impl_DoesFit.mono _ _ _ _ _ _
      | exact impl_DropClue.mono _ _ _ _
      | exact impl_FacingPairs.mono _ _
      | exact impl_HarderPuzzle.mono _ _ _
      | exact impl_IsPuzzle.mono _ _ _
      | exact impl_IsSolved.mono _ _ _
      | exact impl_MakePuzzle.mono _ _ _ _
      | exact impl_NeedlessClues.mono _ _ _
      | exact impl_RowAfter.mono _ _ _
      | exact impl_Solutions.mono _ _ _
      | exact impl_TicksToRest.mono _ _
      | exact impl_TurnsOfEach.mono _ _
      | exact laws_vPuzzle.mono _ _ _ _ _
      | exact laws_vTexts.mono _ _ _
      | exact spec_AddClue.mono _ _ _ _ _ _ _
      | exact spec_DoesFit.mono _ _ _ _ _ _
      | exact spec_DrawAddClue.mono _ _
      | exact spec_DrawDoesFit.mono _ _
      | exact spec_DrawDropClue.mono _ _
      | exact spec_DrawHarderPuzzle.mono _ _
      | exact spec_DrawIsClue.mono _ _
      | exact spec_DrawMakePuzzle.mono _ _
      | exact spec_DropClue.mono _ _ _ _
      | exact spec_HarderPuzzle.mono _ _ _
      | exact spec_MakePuzzle.mono _ _ _ _
      | exact LeO.none _
      | refine LeO.ite ?_ ?_
      | refine LeO.bind ?_ (fun _ => ?_)
def laws_FnRowsHidden.T62 : Bool × List (List Nat × List Nat) := (true, [([], []), ([], []), ([0, 1], [0, 1]), ([2], [2]), ([3], [3]), ([3], [3]), ([4, 5, 3, 3], [3, 4, 5]), ([6, 3], [3, 6]), ([3, 7], [3, 7]), ([8, 6], [8]), ([9], [9]), ([9], [9]), ([10, 11, 9], [9, 10, 11]), ([9, 12], [9, 12]), ([13, 9], [13]), ([14], [14]), ([14], [14]), ([15, 16, 14, 14], [14, 15, 16]), ([17, 14], [14, 17]), ([14, 18], [14, 18]), ([19, 17], [19]), ([20], [20]), ([20], [20]), ([21, 22, 20], [20, 21, 22]), ([20, 23], [20, 23]), ([24, 20], [24]), ([25], [25]), ([25], [25]), ([26, 27, 25], [25, 26, 27]), ([25, 28], [25, 28]), ([29, 25], [29]), ([30], [30]), ([30], [30]), ([31, 32, 30, 30], [30, 31, 32]), ([30], [30]), ([30], [30]), ([34, 35, 33, 30], [30, 34, 35]), ([33, 36, 30], [30, 33, 36]), ([30, 37], [30, 37]), ([38, 36], [38]), ([39], [39]), ([40, 39, 39], [39, 40]), ([41], [41]), ([42, 41], [41, 42]), ([41], [41]), ([43, 44, 41, 41], [41, 43, 44]), ([45, 41], [41, 45]), ([41, 46, 39], [39, 41, 46]), ([39, 47], [39, 47])])
def laws_FnRowsHidden.B62 : List Nat := [0, 0, 3, 7, 15, 15, 63, 127, 255, 511, 1023, 1023, 4095, 8191, 16383, 32767, 32767, 131071, 262143, 524287, 1048575, 2097151, 2097151, 8388607, 16777215, 33554431, 67108863, 67108863, 268435455, 536870911, 1073741823, 2147483647, 2147483647, 8589934591, 2147483647, 2147483647, 68719476735, 137438953471, 274877906943, 549755813887, 1099511627775, 2199023255551, 4398046511103, 8796093022207, 4398046511103, 35184372088831, 70368744177663, 140737488355327, 281474976710655]
theorem laws_FnRowsHidden.tab62 : rtab .any (opsOf Tryz.f3 62) = laws_FnRowsHidden.T62 := by kernel_rfl
theorem laws_FnRowsHidden.bits62 : waitsOk laws_FnRowsHidden.T62.2 laws_FnRowsHidden.B62 = true := by kernel_rfl
def laws_FnRowsHidden.T66 : Bool × List (List Nat × List Nat) := (true, [([], []), ([0], [0]), ([1], [1]), ([2], [2]), ([2], [2]), ([3, 4, 2, 2], [2, 3, 4]), ([5, 2], [2, 5]), ([2, 6], [2, 6]), ([7, 5], [7]), ([8], [8]), ([9, 8], [8, 9]), ([8], [8]), ([11, 8], [8, 11]), ([12, 8], [8, 12]), ([10, 13, 8], [8, 10, 13]), ([14, 8], [8, 14]), ([8], [8]), ([15, 16, 8], [8, 15, 16]), ([8, 17], [8, 17])])
def laws_FnRowsHidden.B66 : List Nat := [0, 1, 3, 7, 7, 31, 63, 127, 255, 511, 1023, 511, 2559, 6655, 16383, 32767, 511, 131071, 262143]
theorem laws_FnRowsHidden.tab66 : rtab .any (opsOf Tryz.f3 66) = laws_FnRowsHidden.T66 := by kernel_rfl
theorem laws_FnRowsHidden.bits66 : waitsOk laws_FnRowsHidden.T66.2 laws_FnRowsHidden.B66 = true := by kernel_rfl
def laws_FnRowsHidden.T69 : Bool × List (List Nat × List Nat) := (true, [([], []), ([], []), ([1], [1]), ([], []), ([2, 3], [2, 3]), ([4], [4]), ([0, 5], [0, 5]), ([6], [6]), ([7], [7]), ([7], [7]), ([], []), ([10, 8, 6, 0, 1, 2, 3, 4, 5, 6, 7, 8, 10], [8, 10]), ([9, 11, 0, 1, 2, 3, 4, 5, 6, 7, 8, 9, 10, 11], [9])])
def laws_FnRowsHidden.B69 : List Nat := [0, 0, 2, 0, 14, 30, 63, 127, 255, 255, 0, 1535, 4095]
theorem laws_FnRowsHidden.tab69 : rtab .any (opsOf Tryz.f3 69) = laws_FnRowsHidden.T69 := by kernel_rfl
theorem laws_FnRowsHidden.bits69 : waitsOk laws_FnRowsHidden.T69.2 laws_FnRowsHidden.B69 = true := by kernel_rfl
end Go.Proofs.YthjbmojacgkdcaaGreatDoor.PFnRowsHidden
