-- Laid by xprint, a program of this session that runs over the kit's print.
import Derived.Test.YtonhhfhlhlifcaaGreatDoorPFnRowsHiddenOfAllx16
namespace Go.Proofs.YtonhhfhlhlifcaaGreatDoor.PFnRowsHiddenOfAll
open Go.RowKit Go.Proofs.YtonhhfhlhlifcaaGreatDoorW.PrintWords Go.Proofs.YtonhhfhlhlifcaaGreatDoorW.PrintLast Go.Proofs.YtonhhfhlhlifcaaGreatDoorW.PrintMore Go.Proofs.YtonhhfhlhlifcaaGreatDoor.Sq
attribute [local go_sem] max2_int min2_int max_two min_two max_three min_three max_four min_four   -- for this text's walks alone
set_option linter.unusedVariables false
set_option linter.unusedSimpArgs false

attribute [local go_sem high] eqA26
/-! ### laws_FnRowsHiddenOfAll: function 3 -/
mutual
def laws_FnRowsHiddenOfAll.j0 : Nat → ByteArray → Int → Int → Int → ByteArray → Int → Bool → Int → List (S26) → Int → List (S26) → Int → Int → Int → Int → Int → List (S26) → Int → Int → Int → Int → Int → Int → Int → Int → Option (Bool)
  | 0, _, _, _, _, _, _, _, _, _, _, _, _, _, _, _, _, _, _, _, _, _, _, _, _, _ => none
  | k + 1, x0, x1, x2, x7, x9, x10, x88, x375000, x375001, x376000, x376001, x377000, x377001, x377002, x377003, x378000, x378001, x379000, x379001, x379002, x379003, x380000, x380001, x380002, x380003 => if x88 = true then (some true) else ((impl_MakePuzzle.f k x0 x1 x2).bind fun bt380 => ((spec_MakePuzzle.f k x0 x1 x2).bind fun bt386 => (if (bt380.2.2 != bt386.2.2) = true then (some false) else ((laws_vPuzzle.f k bt380.1 bt380.2.1 bt386.1 bt386.2.1).bind fun t392 => (if t392 = true then (if bt380.2.2 = true then ((impl_TicksToRest.f k x0).bind fun bt393 => ((impl_DoesFit.f k 2 0 0 bt393.1 x0).bind fun bt395 => ((impl_FacingPairs.f k x0).bind fun bt397 => ((impl_DoesFit.f k 3 0 0 (bt397.1.length : Int) x0).bind fun bt401 => ((impl_TurnsOfEach.f k x0).bind fun bt403 => ((impl_IsPuzzle.f k bt380.1 bt380.2.1).bind fun t407 => (if t407 = true then (if (bt380.2.1.length : Int) = x1 then (if bt393.2 = true then (if bt395.2 = true then (if bt395.1 = true then (if bt397.2 = true then (if bt401.2 = true then (if bt401.1 = true then (if bt403.2 = true then (laws_FnRowsHiddenOfAll.l0 k x0 x7 x9 x10 bt403.1 (bt403.1.length : Int) 0 x375000 x375001 x376000 x376001 x377000 x377001 x377002 x377003 x378000 x378001 x379000 x379001 x379002 x379003 x380000 x380001 x380002 x380003 bt380.1 bt380.2.1) else (some false)) else (some false)) else (some false)) else (some false)) else (some false)) else (some false)) else (some false)) else (some false)) else (some false)))))))) else (laws_FnRowsHiddenOfAll.j4 k x7 x9 x10 x375000 x375001 x376000 x376001 x377000 x377001 x377002 x377003 x378000 x378001 x379000 x379001 x379002 x379003 x380000 x380001 x380002 x380003)) else (some false))))))
def laws_FnRowsHiddenOfAll.j4 : Nat → Int → ByteArray → Int → Int → List (S26) → Int → List (S26) → Int → Int → Int → Int → Int → List (S26) → Int → Int → Int → Int → Int → Int → Int → Int → Option (Bool)
  | 0, _, _, _, _, _, _, _, _, _, _, _, _, _, _, _, _, _, _, _, _, _ => none
  | k + 1, x7, x9, x10, x375000, x375001, x376000, x376001, x377000, x377001, x377002, x377003, x378000, x378001, x379000, x379001, x379002, x379003, x380000, x380001, x380002, x380003 => (impl_HarderPuzzle.f k x375000 x375001).bind fun bt423 => ((spec_HarderPuzzle.f k x375000 x375001).bind fun bt429 => ((impl_IsSolved.f k x375000 x375001).bind fun bt435 => (if (bt423.2.2 != bt429.2.2) = true then (some false) else ((laws_vPuzzle.f k bt423.1 bt423.2.1 bt429.1 bt429.2.1).bind fun t437 => (if t437 = true then (if bt435.2 = true then (laws_FnRowsHiddenOfAll.j5 k x7 x9 x10 bt423.2.2 (bt423.2.2 != bt435.1) x375000 x375001 x376000 x376001 x377000 x377001 x377002 x377003 x378000 x378001 x379000 x379001 x379002 x379003 x380000 x380001 x380002 x380003 bt423.1 bt423.2.1) else (laws_FnRowsHiddenOfAll.j5 k x7 x9 x10 bt423.2.2 (bt423.2.2 != false) x375000 x375001 x376000 x376001 x377000 x377001 x377002 x377003 x378000 x378001 x379000 x379001 x379002 x379003 x380000 x380001 x380002 x380003 bt423.1 bt423.2.1)) else (some false))))))
def laws_FnRowsHiddenOfAll.j5 : Nat → Int → ByteArray → Int → Bool → Bool → Int → List (S26) → Int → List (S26) → Int → Int → Int → Int → Int → List (S26) → Int → Int → Int → Int → Int → Int → Int → Int → Int → List (S26) → Option (Bool)
  | 0, _, _, _, _, _, _, _, _, _, _, _, _, _, _, _, _, _, _, _, _, _, _, _, _, _ => none
  | k + 1, x7, x9, x10, x54, x287, x375000, x375001, x376000, x376001, x377000, x377001, x377002, x377003, x378000, x378001, x379000, x379001, x379002, x379003, x380000, x380001, x380002, x380003, x429000, x429001 => if x287 = true then (some false) else (if x54 = true then ((impl_Solutions.f k x375000 x375001).bind fun bt438 => ((impl_Solutions.f k x429000 x429001).bind fun bt442 => ((impl_NeedlessClues.f k x429000 x429001).bind fun bt446 => (if bt438.2 = true then (if bt442.2 = true then ((laws_vTexts.f k bt438.1 bt442.1).bind fun t450 => (if t450 = true then (if bt446.2 = true then (if (bt446.1.length : Int) = 0 then (if (x429001.length : Int) > (x375001.length : Int) then (some false) else (laws_FnRowsHiddenOfAll.j6 k x7 x9 x10 x376000 x376001 x377000 x377001 x377002 x377003 x378000 x378001 x379000 x379001 x379002 x379003 x380000 x380001 x380002 x380003)) else (some false)) else (some false)) else (some false))) else (some false)) else (some false))))) else (laws_FnRowsHiddenOfAll.j6 k x7 x9 x10 x376000 x376001 x377000 x377001 x377002 x377003 x378000 x378001 x379000 x379001 x379002 x379003 x380000 x380001 x380002 x380003))
def laws_FnRowsHiddenOfAll.j6 : Nat → Int → ByteArray → Int → Int → List (S26) → Int → Int → Int → Int → Int → List (S26) → Int → Int → Int → Int → Int → Int → Int → Int → Option (Bool)
  | 0, _, _, _, _, _, _, _, _, _, _, _, _, _, _, _, _, _, _, _ => none
  | k + 1, x7, x9, x10, x376000, x376001, x377000, x377001, x377002, x377003, x378000, x378001, x379000, x379001, x379002, x379003, x380000, x380001, x380002, x380003 => (impl_AddClue.f k x376000 x376001 x377000 x377001 x377002 x377003).bind fun bt451 => ((spec_AddClue.f k x376000 x376001 x377000 x377001 x377002 x377003).bind fun bt457 => ((impl_DropClue.f k x378000 x378001 x7).bind fun bt463 => ((spec_DropClue.f k x378000 x378001 x7).bind fun bt469 => ((impl_DoesFit.f k x379000 x379001 x379002 x379003 x9).bind fun bt475 => ((spec_DoesFit.f k x379000 x379001 x379002 x379003 x9).bind fun bt477 => (if (bt451.2.2 != bt457.2.2) = true then (some false) else ((laws_vPuzzle.f k bt451.1 bt451.2.1 bt457.1 bt457.2.1).bind fun t479 => (if t479 = true then (if (bt463.2.2 != bt469.2.2) = true then (some false) else ((laws_vPuzzle.f k bt463.1 bt463.2.1 bt469.1 bt469.2.1).bind fun t480 => (if t480 = true then (if (bt475.2 != bt477.2) = true then (some false) else (if (bt475.1 != bt477.1) = true then (some false) else ((impl_IsClue.f x10 x380000 x380001 x380002 x380003).bind fun t481 => ((spec_IsClue.f x10 x380000 x380001 x380002 x380003).bind fun t482 => (if (t481 != t482) = true then (some false) else (if bt475.2 = true then ((impl_IsClue.f (x9.size : Int) x379000 x379001 x379002 x379003).bind fun t483 => (laws_FnRowsHiddenOfAll.j7 k x7 bt451.2.2 bt463.2.2 (!t483) x376000 x376001 x377000 x377001 x377002 x377003 x378000 x378001 bt451.1 bt451.2.1 bt463.1 bt463.2.1)) else (laws_FnRowsHiddenOfAll.j7 k x7 bt451.2.2 bt463.2.2 false x376000 x376001 x377000 x377001 x377002 x377003 x378000 x378001 bt451.1 bt451.2.1 bt463.1 bt463.2.1))))))) else (some false)))) else (some false)))))))))
def laws_FnRowsHiddenOfAll.j7 : Nat → Int → Bool → Bool → Bool → Int → List (S26) → Int → Int → Int → Int → Int → List (S26) → Int → List (S26) → Int → List (S26) → Option (Bool)
  | 0, _, _, _, _, _, _, _, _, _, _, _, _, _, _, _, _ => none
  | k + 1, x7, x66, x70, x418, x376000, x376001, x377000, x377001, x377002, x377003, x378000, x378001, x457000, x457001, x469000, x469001 => if x418 = true then (some false) else (if x66 = true then ((impl_DropClue.f k x457000 x457001 (x376001.length : Int)).bind fun bt484 => (if bt484.2.2 = true then ((laws_vPuzzle.f k bt484.1 bt484.2.1 x376000 x376001).bind fun t490 => (if t490 = true then (if 0 ≤ (x376001.length : Int) then (if (x376001.length : Int) < (x457001.length : Int) then (if (!(((rd_T26 x457001 (x376001.length : Int)).f0) == x377000) || (!(((rd_T26 x457001 (x376001.length : Int)).f1) == x377001) || (!(((rd_T26 x457001 (x376001.length : Int)).f2) == x377002) || (!(((rd_T26 x457001 (x376001.length : Int)).f3) == x377003))))) = true then (some false) else (laws_FnRowsHiddenOfAll.j8 k x7 x70 x378000 x378001 x469000 x469001)) else (none)) else (none)) else (some false))) else (some false))) else (laws_FnRowsHiddenOfAll.j8 k x7 x70 x378000 x378001 x469000 x469001))
def laws_FnRowsHiddenOfAll.j8 : Nat → Int → Bool → Int → List (S26) → Int → List (S26) → Option (Bool)
  | 0, _, _, _, _, _, _ => none
  | k + 1, x7, x70, x378000, x378001, x469000, x469001 => if x70 = true then (laws_FnRowsHiddenOfAll.j9 k x7 (x7 == (wrap64 ((x378001.length : Int) - 1))) x378000 x378001 x469000 x469001) else (laws_FnRowsHiddenOfAll.j9 k x7 false x378000 x378001 x469000 x469001)
def laws_FnRowsHiddenOfAll.j9 : Nat → Int → Bool → Int → List (S26) → Int → List (S26) → Option (Bool)
  | 0, _, _, _, _, _, _ => none
  | k + 1, x7, x455, x378000, x378001, x469000, x469001 => if x455 = true then (if 0 ≤ x7 then (if x7 < (x378001.length : Int) then ((impl_AddClue.f k x469000 x469001 ((rd_T26 x378001 x7).f0) ((rd_T26 x378001 x7).f1) ((rd_T26 x378001 x7).f2) ((rd_T26 x378001 x7).f3)).bind fun bt493 => (if bt493.2.2 = true then ((laws_vPuzzle.f k bt493.1 bt493.2.1 x378000 x378001).bind fun t499 => (some t499)) else (some false))) else (none)) else (none)) else (some true)
def laws_FnRowsHiddenOfAll.l0 : Nat → ByteArray → Int → ByteArray → Int → List Int → Int → Int → Int → List (S26) → Int → List (S26) → Int → Int → Int → Int → Int → List (S26) → Int → Int → Int → Int → Int → Int → Int → Int → Int → List (S26) → Option (Bool)
  | 0, _, _, _, _, _, _, _, _, _, _, _, _, _, _, _, _, _, _, _, _, _, _, _, _, _, _, _ => none
  | k + 1, x0, x7, x9, x10, x181, x182, x183, x375000, x375001, x376000, x376001, x377000, x377001, x377002, x377003, x378000, x378001, x379000, x379001, x379002, x379003, x380000, x380001, x380002, x380003, x386000, x386001 => if x183 < x182 then (if 0 ≤ x183 then (if x183 < (x181.length : Int) then ((impl_DoesFit.f k 4 x183 0 (rd x181 x183) x0).bind fun bt409 => (if bt409.2 = true then (if bt409.1 = true then (laws_FnRowsHiddenOfAll.l0 k x0 x7 x9 x10 x181 x182 (wrap64 (x183 + 1)) x375000 x375001 x376000 x376001 x377000 x377001 x377002 x377003 x378000 x378001 x379000 x379001 x379002 x379003 x380000 x380001 x380002 x380003 x386000 x386001) else (some false)) else (some false))) else (none)) else (none)) else ((impl_RowAfter.f k x0 2).bind fun bt411 => (laws_FnRowsHiddenOfAll.l1 k x0 x7 x9 x10 bt411.1 bt411.2 x375000 x375001 x376000 x376001 x377000 x377001 x377002 x377003 x378000 x378001 x379000 x379001 x379002 x379003 x380000 x380001 x380002 x380003 x386000 x386001 0 bt411.1))
def laws_FnRowsHiddenOfAll.l1 : Nat → ByteArray → Int → ByteArray → Int → ByteArray → Bool → Int → List (S26) → Int → List (S26) → Int → Int → Int → Int → Int → List (S26) → Int → Int → Int → Int → Int → Int → Int → Int → Int → List (S26) → Int → ByteArray → Option (Bool)
  | 0, _, _, _, _, _, _, _, _, _, _, _, _, _, _, _, _, _, _, _, _, _, _, _, _, _, _, _, _ => none
  | k + 1, x0, x7, x9, x10, x43, x44, x375000, x375001, x376000, x376001, x377000, x377001, x377002, x377003, x378000, x378001, x379000, x379001, x379002, x379003, x380000, x380001, x380002, x380003, x386000, x386001, x414000, x414001 => if x414000 < (x414001.size : Int) then (if 0 ≤ x414000 then (if bt x414001 x414000 < 128 then (if x414000 < (x43.size : Int) then (if (bt x43 x414000) = 62 then ((impl_DoesFit.f k 0 x414000 2 1 x0).bind fun bt415 => (if x44 = true then (if bt415.2 = true then (if bt415.1 = true then (laws_FnRowsHiddenOfAll.l1 k x0 x7 x9 x10 x43 x44 x375000 x375001 x376000 x376001 x377000 x377001 x377002 x377003 x378000 x378001 x379000 x379001 x379002 x379003 x380000 x380001 x380002 x380003 x386000 x386001 (x414000 + 1) x414001) else (some false)) else (some false)) else (some false))) else ((impl_DoesFit.f k 0 x414000 2 0 x0).bind fun bt417 => (if x44 = true then (if bt417.2 = true then (if bt417.1 = true then (laws_FnRowsHiddenOfAll.l1 k x0 x7 x9 x10 x43 x44 x375000 x375001 x376000 x376001 x377000 x377001 x377002 x377003 x378000 x378001 x379000 x379001 x379002 x379003 x380000 x380001 x380002 x380003 x386000 x386001 (x414000 + 1) x414001) else (some false)) else (some false)) else (some false)))) else (none)) else (none)) else (none)) else (laws_FnRowsHiddenOfAll.l2 k x0 x7 x9 x10 x386001 (x386001.length : Int) 0 x375000 x375001 x376000 x376001 x377000 x377001 x377002 x377003 x378000 x378001 x379000 x379001 x379002 x379003 x380000 x380001 x380002 x380003)
def laws_FnRowsHiddenOfAll.l2 : Nat → ByteArray → Int → ByteArray → Int → List (S26) → Int → Int → Int → List (S26) → Int → List (S26) → Int → Int → Int → Int → Int → List (S26) → Int → Int → Int → Int → Int → Int → Int → Int → Option (Bool)
  | 0, _, _, _, _, _, _, _, _, _, _, _, _, _, _, _, _, _, _, _, _, _, _, _, _, _ => none
  | k + 1, x0, x7, x9, x10, x237, x238, x239, x375000, x375001, x376000, x376001, x377000, x377001, x377002, x377003, x378000, x378001, x379000, x379001, x379002, x379003, x380000, x380001, x380002, x380003 => if x239 < x238 then (if 0 ≤ x239 then (if x239 < (x237.length : Int) then ((impl_DoesFit.f k ((rd_T26 x237 x239).f0) ((rd_T26 x237 x239).f1) ((rd_T26 x237 x239).f2) ((rd_T26 x237 x239).f3) x0).bind fun bt421 => (if bt421.2 = true then (if bt421.1 = true then (laws_FnRowsHiddenOfAll.l2 k x0 x7 x9 x10 x237 x238 (wrap64 (x239 + 1)) x375000 x375001 x376000 x376001 x377000 x377001 x377002 x377003 x378000 x378001 x379000 x379001 x379002 x379003 x380000 x380001 x380002 x380003) else (some false)) else (some false))) else (none)) else (none)) else (laws_FnRowsHiddenOfAll.j4 k x7 x9 x10 x375000 x375001 x376000 x376001 x377000 x377001 x377002 x377003 x378000 x378001 x379000 x379001 x379002 x379003 x380000 x380001 x380002 x380003)
end
def laws_FnRowsHiddenOfAll.f (k : Nat) (a0 : ByteArray) (a1 : Int) (a2 : Int) (a3_0 : Int) (l3_1 : List (S26)) (a4_0 : Int) (l4_1 : List (S26)) (a5_0 : Int) (a5_1 : Int) (a5_2 : Int) (a5_3 : Int) (a6_0 : Int) (l6_1 : List (S26)) (a7 : Int) (a8_0 : Int) (a8_1 : Int) (a8_2 : Int) (a8_3 : Int) (a9 : ByteArray) (a10 : Int) (a11_0 : Int) (a11_1 : Int) (a11_2 : Int) (a11_3 : Int) : Option (Bool) := if (a0.size : Int) > 1048576 then (laws_FnRowsHiddenOfAll.j0 k a0 a1 a2 a7 a9 a10 true a3_0 l3_1 a4_0 l4_1 a5_0 a5_1 a5_2 a5_3 a6_0 l6_1 a8_0 a8_1 a8_2 a8_3 a11_0 a11_1 a11_2 a11_3) else (laws_FnRowsHiddenOfAll.j0 k a0 a1 a2 a7 a9 a10 (decide ((a9.size : Int) > 1048576)) a3_0 l3_1 a4_0 l4_1 a5_0 a5_1 a5_2 a5_3 a6_0 l6_1 a8_0 a8_1 a8_2 a8_3 a11_0 a11_1 a11_2 a11_3)
theorem laws_FnRowsHiddenOfAll.mono_l : ∀ k, (∀ y0 y1 y2 y3 y4 y5 y6 y7 y8 y9 y10 y11 y12 y13 y14 y15 y16 y17 y18 y19 y20 y21 y22 y23 y24, LeO (laws_FnRowsHiddenOfAll.j0 k y0 y1 y2 y3 y4 y5 y6 y7 y8 y9 y10 y11 y12 y13 y14 y15 y16 y17 y18 y19 y20 y21 y22 y23 y24) (laws_FnRowsHiddenOfAll.j0 (k + 1) y0 y1 y2 y3 y4 y5 y6 y7 y8 y9 y10 y11 y12 y13 y14 y15 y16 y17 y18 y19 y20 y21 y22 y23 y24)) ∧ (∀ y0 y1 y2 y3 y4 y5 y6 y7 y8 y9 y10 y11 y12 y13 y14 y15 y16 y17 y18 y19 y20, LeO (laws_FnRowsHiddenOfAll.j4 k y0 y1 y2 y3 y4 y5 y6 y7 y8 y9 y10 y11 y12 y13 y14 y15 y16 y17 y18 y19 y20) (laws_FnRowsHiddenOfAll.j4 (k + 1) y0 y1 y2 y3 y4 y5 y6 y7 y8 y9 y10 y11 y12 y13 y14 y15 y16 y17 y18 y19 y20)) ∧ (∀ y0 y1 y2 y3 y4 y5 y6 y7 y8 y9 y10 y11 y12 y13 y14 y15 y16 y17 y18 y19 y20 y21 y22 y23 y24, LeO (laws_FnRowsHiddenOfAll.j5 k y0 y1 y2 y3 y4 y5 y6 y7 y8 y9 y10 y11 y12 y13 y14 y15 y16 y17 y18 y19 y20 y21 y22 y23 y24) (laws_FnRowsHiddenOfAll.j5 (k + 1) y0 y1 y2 y3 y4 y5 y6 y7 y8 y9 y10 y11 y12 y13 y14 y15 y16 y17 y18 y19 y20 y21 y22 y23 y24)) ∧ (∀ y0 y1 y2 y3 y4 y5 y6 y7 y8 y9 y10 y11 y12 y13 y14 y15 y16 y17 y18, LeO (laws_FnRowsHiddenOfAll.j6 k y0 y1 y2 y3 y4 y5 y6 y7 y8 y9 y10 y11 y12 y13 y14 y15 y16 y17 y18) (laws_FnRowsHiddenOfAll.j6 (k + 1) y0 y1 y2 y3 y4 y5 y6 y7 y8 y9 y10 y11 y12 y13 y14 y15 y16 y17 y18)) ∧ (∀ y0 y1 y2 y3 y4 y5 y6 y7 y8 y9 y10 y11 y12 y13 y14 y15, LeO (laws_FnRowsHiddenOfAll.j7 k y0 y1 y2 y3 y4 y5 y6 y7 y8 y9 y10 y11 y12 y13 y14 y15) (laws_FnRowsHiddenOfAll.j7 (k + 1) y0 y1 y2 y3 y4 y5 y6 y7 y8 y9 y10 y11 y12 y13 y14 y15)) ∧ (∀ y0 y1 y2 y3 y4 y5, LeO (laws_FnRowsHiddenOfAll.j8 k y0 y1 y2 y3 y4 y5) (laws_FnRowsHiddenOfAll.j8 (k + 1) y0 y1 y2 y3 y4 y5)) ∧ (∀ y0 y1 y2 y3 y4 y5, LeO (laws_FnRowsHiddenOfAll.j9 k y0 y1 y2 y3 y4 y5) (laws_FnRowsHiddenOfAll.j9 (k + 1) y0 y1 y2 y3 y4 y5)) ∧ (∀ y0 y1 y2 y3 y4 y5 y6 y7 y8 y9 y10 y11 y12 y13 y14 y15 y16 y17 y18 y19 y20 y21 y22 y23 y24 y25 y26, LeO (laws_FnRowsHiddenOfAll.l0 k y0 y1 y2 y3 y4 y5 y6 y7 y8 y9 y10 y11 y12 y13 y14 y15 y16 y17 y18 y19 y20 y21 y22 y23 y24 y25 y26) (laws_FnRowsHiddenOfAll.l0 (k + 1) y0 y1 y2 y3 y4 y5 y6 y7 y8 y9 y10 y11 y12 y13 y14 y15 y16 y17 y18 y19 y20 y21 y22 y23 y24 y25 y26)) ∧ (∀ y0 y1 y2 y3 y4 y5 y6 y7 y8 y9 y10 y11 y12 y13 y14 y15 y16 y17 y18 y19 y20 y21 y22 y23 y24 y25 y26 y27, LeO (laws_FnRowsHiddenOfAll.l1 k y0 y1 y2 y3 y4 y5 y6 y7 y8 y9 y10 y11 y12 y13 y14 y15 y16 y17 y18 y19 y20 y21 y22 y23 y24 y25 y26 y27) (laws_FnRowsHiddenOfAll.l1 (k + 1) y0 y1 y2 y3 y4 y5 y6 y7 y8 y9 y10 y11 y12 y13 y14 y15 y16 y17 y18 y19 y20 y21 y22 y23 y24 y25 y26 y27)) ∧ (∀ y0 y1 y2 y3 y4 y5 y6 y7 y8 y9 y10 y11 y12 y13 y14 y15 y16 y17 y18 y19 y20 y21 y22 y23 y24, LeO (laws_FnRowsHiddenOfAll.l2 k y0 y1 y2 y3 y4 y5 y6 y7 y8 y9 y10 y11 y12 y13 y14 y15 y16 y17 y18 y19 y20 y21 y22 y23 y24) (laws_FnRowsHiddenOfAll.l2 (k + 1) y0 y1 y2 y3 y4 y5 y6 y7 y8 y9 y10 y11 y12 y13 y14 y15 y16 y17 y18 y19 y20 y21 y22 y23 y24))
  | 0 => ⟨fun _ _ _ _ _ _ _ _ _ _ _ _ _ _ _ _ _ _ _ _ _ _ _ _ _ r h => by simp [laws_FnRowsHiddenOfAll.j0] at h, fun _ _ _ _ _ _ _ _ _ _ _ _ _ _ _ _ _ _ _ _ _ r h => by simp [laws_FnRowsHiddenOfAll.j4] at h, fun _ _ _ _ _ _ _ _ _ _ _ _ _ _ _ _ _ _ _ _ _ _ _ _ _ r h => by simp [laws_FnRowsHiddenOfAll.j5] at h, fun _ _ _ _ _ _ _ _ _ _ _ _ _ _ _ _ _ _ _ r h => by simp [laws_FnRowsHiddenOfAll.j6] at h, fun _ _ _ _ _ _ _ _ _ _ _ _ _ _ _ _ r h => by simp [laws_FnRowsHiddenOfAll.j7] at h, fun _ _ _ _ _ _ r h => by simp [laws_FnRowsHiddenOfAll.j8] at h, fun _ _ _ _ _ _ r h => by simp [laws_FnRowsHiddenOfAll.j9] at h, fun _ _ _ _ _ _ _ _ _ _ _ _ _ _ _ _ _ _ _ _ _ _ _ _ _ _ _ r h => by simp [laws_FnRowsHiddenOfAll.l0] at h, fun _ _ _ _ _ _ _ _ _ _ _ _ _ _ _ _ _ _ _ _ _ _ _ _ _ _ _ _ r h => by simp [laws_FnRowsHiddenOfAll.l1] at h, fun _ _ _ _ _ _ _ _ _ _ _ _ _ _ _ _ _ _ _ _ _ _ _ _ _ r h => by simp [laws_FnRowsHiddenOfAll.l2] at h⟩
  | k + 1 => by
    obtain ⟨ih0, ih1, ih2, ih3, ih4, ih5, ih6, ih7, ih8, ih9⟩ := laws_FnRowsHiddenOfAll.mono_l k
    refine ⟨?q0, ?q1, ?q2, ?q3, ?q4, ?q5, ?q6, ?q7, ?q8, ?q9⟩
    case' q0 => (intros; unfold laws_FnRowsHiddenOfAll.j0)
    case' q1 => (intros; unfold laws_FnRowsHiddenOfAll.j4)
    case' q2 => (intros; unfold laws_FnRowsHiddenOfAll.j5)
    case' q3 => (intros; unfold laws_FnRowsHiddenOfAll.j6)
    case' q4 => (intros; unfold laws_FnRowsHiddenOfAll.j7)
    case' q5 => (intros; unfold laws_FnRowsHiddenOfAll.j8)
    case' q6 => (intros; unfold laws_FnRowsHiddenOfAll.j9)
    case' q7 => (intros; unfold laws_FnRowsHiddenOfAll.l0)
    case' q8 => (intros; unfold laws_FnRowsHiddenOfAll.l1)
    case' q9 => (intros; unfold laws_FnRowsHiddenOfAll.l2)
    all_goals repeat' first
     | (with_reducible exact ih0 _ _ _ _ _ _ _ _ _ _ _ _ _ _ _ _ _ _ _ _ _ _ _ _ _)
     | (with_reducible exact ih1 _ _ _ _ _ _ _ _ _ _ _ _ _ _ _ _ _ _ _ _ _)
     | (with_reducible exact ih2 _ _ _ _ _ _ _ _ _ _ _ _ _ _ _ _ _ _ _ _ _ _ _ _ _)
     | (with_reducible exact ih3 _ _ _ _ _ _ _ _ _ _ _ _ _ _ _ _ _ _ _)
     | (with_reducible exact ih4 _ _ _ _ _ _ _ _ _ _ _ _ _ _ _ _)
     | (with_reducible exact ih5 _ _ _ _ _ _)
     | (with_reducible exact ih6 _ _ _ _ _ _)
     | (with_reducible exact ih7 _ _ _ _ _ _ _ _ _ _ _ _ _ _ _ _ _ _ _ _ _ _ _ _ _ _ _)
     | (with_reducible exact ih8 _ _ _ _ _ _ _ _ _ _ _ _ _ _ _ _ _ _ _ _ _ _ _ _ _ _ _ _)
     | (with_reducible exact ih9 _ _ _ _ _ _ _ _ _ _ _ _ _ _ _ _ _ _ _ _ _ _ _ _ _)
     | (with_reducible exact impl_AddClue.mono _ _ _ _ _ _ _)
     | (with_reducible exact impl_DoesFit.mono _ _ _ _ _ _)
     | (with_reducible exact impl_DropClue.mono _ _ _ _)
     | (with_reducible exact impl_FacingPairs.mono _ _)
     | (with_reducible exact impl_HarderPuzzle.mono _ _ _)
     | (with_reducible exact impl_IsPuzzle.mono _ _ _)
     | (with_reducible exact impl_IsSolved.mono _ _ _)
     | (with_reducible exact impl_MakePuzzle.mono _ _ _ _)
     | (with_reducible exact impl_NeedlessClues.mono _ _ _)
     | (with_reducible exact impl_RowAfter.mono _ _ _)
     | (with_reducible exact impl_Solutions.mono _ _ _)
     | (with_reducible exact impl_TicksToRest.mono _ _)
     | (with_reducible exact impl_TurnsOfEach.mono _ _)
     | (with_reducible exact laws_vPuzzle.mono _ _ _ _ _)
     | (with_reducible exact laws_vTexts.mono _ _ _)
     | (with_reducible exact spec_AddClue.mono _ _ _ _ _ _ _)
     | (with_reducible exact spec_DoesFit.mono _ _ _ _ _ _)
     | (with_reducible exact spec_DropClue.mono _ _ _ _)
     | (with_reducible exact spec_HarderPuzzle.mono _ _ _)
     | (with_reducible exact spec_MakePuzzle.mono _ _ _ _)
     | (with_reducible exact LeO.refl _)
     | (with_reducible exact LeO.none _)
     | (with_reducible refine LeO.ite ?_ ?_)
     | (with_reducible refine LeO.bind ?_ (fun _ => ?_))
     | exact ih0 _ _ _ _ _ _ _ _ _ _ _ _ _ _ _ _ _ _ _ _ _ _ _ _ _
     | exact ih1 _ _ _ _ _ _ _ _ _ _ _ _ _ _ _ _ _ _ _ _ _
     | exact ih2 _ _ _ _ _ _ _ _ _ _ _ _ _ _ _ _ _ _ _ _ _ _ _ _ _
     | exact ih3 _ _ _ _ _ _ _ _ _ _ _ _ _ _ _ _ _ _ _
     | exact ih4 _ _ _ _ _ _ _ _ _ _ _ _ _ _ _ _
     | exact ih5 _ _ _ _ _ _
     | exact ih6 _ _ _ _ _ _
     | exact ih7 _ _ _ _ _ _ _ _ _ _ _ _ _ _ _ _ _ _ _ _ _ _ _ _ _ _ _
     | exact ih8 _ _ _ _ _ _ _ _ _ _ _ _ _ _ _ _ _ _ _ _ _ _ _ _ _ _ _ _
     | exact ih9 _ _ _ _ _ _ _ _ _ _ _ _ _ _ _ _ _ _ _ _ _ _ _ _ _
     | exact impl_AddClue.mono _ _ _ _ _ _ _
     | exact impl_DoesFit.mono _ _ _ _ _ _
     | exact impl_DropClue.mono _ _ _ _
     | exact impl_FacingPairs.mono _ _
     | exact impl_HarderPuzzle.mono _ _ _
     | exact impl_IsPuzzle.mono _ _ _
     | exact impl_IsSolved.mono _ _ _
     | exact impl_MakePuzzle.mono _ _ _ _
     | exact impl_NeedlessClues.mono _ _ _
     | exact impl_RowAfter.mono _ _ _
     | exact impl_Solutions.mono _ _ _
     | exact impl_TicksToRest.mono _ _
     | exact impl_TurnsOfEach.mono _ _
     | exact laws_vPuzzle.mono _ _ _ _ _
     | exact laws_vTexts.mono _ _ _
     | exact spec_AddClue.mono _ _ _ _ _ _ _
     | exact spec_DoesFit.mono _ _ _ _ _ _
     | exact spec_DropClue.mono _ _ _ _
     | exact spec_HarderPuzzle.mono _ _ _
     | exact spec_MakePuzzle.mono _ _ _ _
     | exact LeO.none _
     | refine LeO.ite ?_ ?_
     | refine LeO.bind ?_ (fun _ => ?_)
theorem laws_FnRowsHiddenOfAll.mono : ∀ a0 a1 a2 a3 a4 a5 a6 a7 a8 a9 a10 a11 a12 a13 a14 a15 a16 a17 a18 a19 a20 a21 a22 a23 k, LeO (laws_FnRowsHiddenOfAll.f k a0 a1 a2 a3 a4 a5 a6 a7 a8 a9 a10 a11 a12 a13 a14 a15 a16 a17 a18 a19 a20 a21 a22 a23) (laws_FnRowsHiddenOfAll.f (k + 1) a0 a1 a2 a3 a4 a5 a6 a7 a8 a9 a10 a11 a12 a13 a14 a15 a16 a17 a18 a19 a20 a21 a22 a23) := by
  intro a0 a1 a2 a3 a4 a5 a6 a7 a8 a9 a10 a11 a12 a13 a14 a15 a16 a17 a18 a19 a20 a21 a22 a23 k
  obtain ⟨ih0, ih1, ih2, ih3, ih4, ih5, ih6, ih7, ih8, ih9⟩ := laws_FnRowsHiddenOfAll.mono_l k
  unfold laws_FnRowsHiddenOfAll.f
  repeat' first
      | (with_reducible exact ih0 _ _ _ _ _ _ _ _ _ _ _ _ _ _ _ _ _ _ _ _ _ _ _ _ _)
      | (with_reducible exact ih1 _ _ _ _ _ _ _ _ _ _ _ _ _ _ _ _ _ _ _ _ _)
      | (with_reducible exact ih2 _ _ _ _ _ _ _ _ _ _ _ _ _ _ _ _ _ _ _ _ _ _ _ _ _)
      | (with_reducible exact ih3 _ _ _ _ _ _ _ _ _ _ _ _ _ _ _ _ _ _ _)
      | (with_reducible exact ih4 _ _ _ _ _ _ _ _ _ _ _ _ _ _ _ _)
      | (with_reducible exact ih5 _ _ _ _ _ _)
      | (with_reducible exact ih6 _ _ _ _ _ _)
      | (with_reducible exact ih7 _ _ _ _ _ _ _ _ _ _ _ _ _ _ _ _ _ _ _ _ _ _ _ _ _ _ _)
      | (with_reducible exact ih8 _ _ _ _ _ _ _ _ _ _ _ _ _ _ _ _ _ _ _ _ _ _ _ _ _ _ _ _)
      | (with_reducible exact ih9 _ _ _ _ _ _ _ _ _ _ _ _ _ _ _ _ _ _ _ _ _ _ _ _ _)
      | (with_reducible exact impl_AddClue.mono _ _ _ _ _ _ _)
      | (with_reducible exact impl_DoesFit.mono _ _ _ _ _ _)
      | (with_reducible exact impl_DropClue.mono _ _ _ _)
      | (with_reducible exact impl_FacingPairs.mono _ _)
      | (with_reducible exact impl_HarderPuzzle.mono _ _ _)
      | (with_reducible exact impl_IsPuzzle.mono _ _ _)
      | (with_reducible exact impl_IsSolved.mono _ _ _)
      | (with_reducible exact impl_MakePuzzle.mono _ _ _ _)
      | (with_reducible exact impl_NeedlessClues.mono _ _ _)
      | (with_reducible exact impl_RowAfter.mono _ _ _)
      | (with_reducible exact impl_Solutions.mono _ _ _)
      | (with_reducible exact impl_TicksToRest.mono _ _)
      | (with_reducible exact impl_TurnsOfEach.mono _ _)
      | (with_reducible exact laws_vPuzzle.mono _ _ _ _ _)
      | (with_reducible exact laws_vTexts.mono _ _ _)
      | (with_reducible exact spec_AddClue.mono _ _ _ _ _ _ _)
      | (with_reducible exact spec_DoesFit.mono _ _ _ _ _ _)
      | (with_reducible exact spec_DropClue.mono _ _ _ _)
      | (with_reducible exact spec_HarderPuzzle.mono _ _ _)
      | (with_reducible exact spec_MakePuzzle.mono _ _ _ _)
      | (with_reducible exact LeO.refl _)
      | (with_reducible exact LeO.none _)
      | (with_reducible refine LeO.ite ?_ ?_)
      | (with_reducible refine LeO.bind ?_ (fun _ => ?_))
      | exact ih0 _ _ _ _ _ _ _ _ _ _ _ _ _ _ _ _ _ _ _ _ _ _ _ _ _
      | exact ih1 _ _ _ _ _ _ _ _ _ _ _ _ _ _ _ _ _ _ _ _ _
      | exact ih2 _ _ _ _ _ _ _ _ _ _ _ _ _ _ _ _ _ _ _ _ _ _ _ _ _
      | exact ih3 _ _ _ _ _ _ _ _ _ _ _ _ _ _ _ _ _ _ _
      | exact ih4 _ _ _ _ _ _ _ _ _ _ _ _ _ _ _ _
      | exact ih5 _ _ _ _ _ _
      | exact ih6 _ _ _ _ _ _
      | exact ih7 _ _ _ _ _ _ _ _ _ _ _ _ _ _ _ _ _ _ _ _ _ _ _ _ _ _ _
      | exact ih8 _ _ _ _ _ _ _ _ _ _ _ _ _ _ _ _ _ _ _ _ _ _ _ _ _ _ _ _
      | exact ih9 _ _ _ _ _ _ _ _ _ _ _ _ _ _ _ _ _ _ _ _ _ _ _ _ _
      | exact impl_AddClue.mono _ _ _ _ _ _ _
      | exact impl_DoesFit.mono _ _ _ _ _ _
      | exact impl_DropClue.mono _ _ _ _
      | exact impl_FacingPairs.mono _ _
      | exact impl_HarderPuzzle.mono _ _ _
      | exact impl_IsPuzzle.mono _ _ _
      | exact impl_IsSolved.mono _ _ _
      | exact impl_MakePuzzle.mono _ _ _ _
      | exact impl_NeedlessClues.mono _ _ _
      | exact impl_RowAfter.mono _ _ _
      | exact impl_Solutions.mono _ _ _
      | exact impl_TicksToRest.mono _ _
      | exact impl_TurnsOfEach.mono _ _
      | exact laws_vPuzzle.mono _ _ _ _ _
      | exact laws_vTexts.mono _ _ _
      | exact spec_AddClue.mono _ _ _ _ _ _ _
      | exact spec_DoesFit.mono _ _ _ _ _ _
      | exact spec_DropClue.mono _ _ _ _
      | exact spec_HarderPuzzle.mono _ _ _
      | exact spec_MakePuzzle.mono _ _ _ _
      | exact LeO.none _
      | refine LeO.ite ?_ ?_
      | refine LeO.bind ?_ (fun _ => ?_)
def laws_FnRowsHiddenOfAll.T56 : Bool × List (List Nat × List Nat) := (true, [([], []), ([], []), ([0, 1], [0, 1]), ([2], [2]), ([3], [3]), ([3], [3]), ([4, 5, 3, 3], [3, 4, 5]), ([6, 3], [3, 6]), ([3, 7], [3, 7]), ([8, 6], [8]), ([9], [9]), ([9], [9]), ([10, 11, 9], [9, 10, 11]), ([9, 12], [9, 12]), ([13, 9], [13]), ([14], [14]), ([14], [14]), ([15, 16, 14, 14], [14, 15, 16]), ([17, 14], [14, 17]), ([14, 18], [14, 18]), ([19, 17], [19]), ([20], [20]), ([20], [20]), ([21, 22, 20], [20, 21, 22]), ([20, 23], [20, 23]), ([24, 20], [24]), ([25], [25]), ([25], [25]), ([26, 27, 25], [25, 26, 27]), ([25, 28], [25, 28]), ([29, 25], [29]), ([30], [30]), ([30], [30]), ([31, 32, 30, 30], [30, 31, 32]), ([30], [30]), ([30], [30]), ([34, 35, 33, 30], [30, 34, 35]), ([33, 36, 30], [30, 33, 36]), ([30, 37], [30, 37]), ([38, 36], [38]), ([39], [39]), ([40, 39, 39], [39, 40]), ([41], [41]), ([42, 41], [41, 42]), ([41], [41]), ([43, 44, 41, 41], [41, 43, 44]), ([45, 41], [41, 45]), ([41, 46, 39], [39, 41, 46]), ([39, 47], [39, 47])])
def laws_FnRowsHiddenOfAll.B56 : List Nat := [0, 0, 3, 7, 15, 15, 63, 127, 255, 511, 1023, 1023, 4095, 8191, 16383, 32767, 32767, 131071, 262143, 524287, 1048575, 2097151, 2097151, 8388607, 16777215, 33554431, 67108863, 67108863, 268435455, 536870911, 1073741823, 2147483647, 2147483647, 8589934591, 2147483647, 2147483647, 68719476735, 137438953471, 274877906943, 549755813887, 1099511627775, 2199023255551, 4398046511103, 8796093022207, 4398046511103, 35184372088831, 70368744177663, 140737488355327, 281474976710655]
theorem laws_FnRowsHiddenOfAll.tab56 : rtab .any (opsOf Tryz.f3 56) = laws_FnRowsHiddenOfAll.T56 := by kernel_rfl
theorem laws_FnRowsHiddenOfAll.bits56 : waitsOk laws_FnRowsHiddenOfAll.T56.2 laws_FnRowsHiddenOfAll.B56 = true := by kernel_rfl
def laws_FnRowsHiddenOfAll.T60 : Bool × List (List Nat × List Nat) := (true, [([], []), ([0], [0]), ([1], [1]), ([2], [2]), ([2], [2]), ([3, 4, 2, 2], [2, 3, 4]), ([5, 2], [2, 5]), ([2, 6], [2, 6]), ([7, 5], [7]), ([8], [8]), ([9, 8], [8, 9]), ([8], [8]), ([11, 8], [8, 11]), ([12, 8], [8, 12]), ([10, 13, 8], [8, 10, 13]), ([14, 8], [8, 14]), ([8], [8]), ([15, 16, 8], [8, 15, 16]), ([8, 17], [8, 17])])
def laws_FnRowsHiddenOfAll.B60 : List Nat := [0, 1, 3, 7, 7, 31, 63, 127, 255, 511, 1023, 511, 2559, 6655, 16383, 32767, 511, 131071, 262143]
theorem laws_FnRowsHiddenOfAll.tab60 : rtab .any (opsOf Tryz.f3 60) = laws_FnRowsHiddenOfAll.T60 := by kernel_rfl
theorem laws_FnRowsHiddenOfAll.bits60 : waitsOk laws_FnRowsHiddenOfAll.T60.2 laws_FnRowsHiddenOfAll.B60 = true := by kernel_rfl
def laws_FnRowsHiddenOfAll.T63 : Bool × List (List Nat × List Nat) := (true, [([], []), ([], []), ([1], [1]), ([], []), ([2, 3], [2, 3]), ([4], [4]), ([0, 5], [0, 5]), ([6], [6]), ([7], [7]), ([7], [7]), ([], []), ([10, 8, 6, 0, 1, 2, 3, 4, 5, 6, 7, 8, 10], [8, 10]), ([9, 11, 0, 1, 2, 3, 4, 5, 6, 7, 8, 9, 10, 11], [9])])
def laws_FnRowsHiddenOfAll.B63 : List Nat := [0, 0, 2, 0, 14, 30, 63, 127, 255, 255, 0, 1535, 4095]
theorem laws_FnRowsHiddenOfAll.tab63 : rtab .any (opsOf Tryz.f3 63) = laws_FnRowsHiddenOfAll.T63 := by kernel_rfl
theorem laws_FnRowsHiddenOfAll.bits63 : waitsOk laws_FnRowsHiddenOfAll.T63.2 laws_FnRowsHiddenOfAll.B63 = true := by kernel_rfl
end Go.Proofs.YtonhhfhlhlifcaaGreatDoor.PFnRowsHiddenOfAll
