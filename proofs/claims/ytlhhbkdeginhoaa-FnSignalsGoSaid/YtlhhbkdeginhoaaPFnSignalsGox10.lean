-- Laid by xprint, a program of this session that runs over the kit's print.
import Derived.Test.YtlhhbkdeginhoaaPFnSignalsGox0
import Derived.Test.YtlhhbkdeginhoaaPFnSignalsGox1
import Derived.Test.YtlhhbkdeginhoaaPFnSignalsGox2
import Derived.Test.YtlhhbkdeginhoaaPFnSignalsGox3
import Derived.Test.YtlhhbkdeginhoaaPFnSignalsGox4
import Derived.Test.YtlhhbkdeginhoaaPFnSignalsGox5
import Derived.Test.YtlhhbkdeginhoaaPFnSignalsGox7
import Derived.Test.YtlhhbkdeginhoaaPFnSignalsGox8
import Derived.Test.YtlhhbkdeginhoaaPFnSignalsGox9
namespace Go.Proofs.Ytlhhbkdeginhoaa.PFnSignalsGo
open Go.RowKit Go.Proofs.YtlhhbkdeginhoaaW.PrintWords Go.Proofs.YtlhhbkdeginhoaaW.PrintLast Go.Proofs.YtlhhbkdeginhoaaW.PrintMore Go.Proofs.Ytlhhbkdeginhoaa.Sq
attribute [local go_sem] max2_int min2_int max_two min_two max_three min_three max_four min_four   -- for this text's walks alone
set_option linter.unusedVariables false
set_option linter.unusedSimpArgs false

/-! ### laws_FnSignalsGo: function 3 -/
mutual
def laws_FnSignalsGo.j0 : Nat → List Int → Int → Int → Int → Bool → Int → Bool → Int → Bool → Int → Option (Bool)
  | 0, _, _, _, _, _, _, _, _, _, _ => none
  | k + 1, x1, x5, x7, x8, x9, x12, x118, x336000, x336001, x336002 => if x118 = true then (some false) else (if x9 = true then (if x8 < 0 then (some false) else (if x8 ≥ x5 then (some false) else (if x12 < 1 then (some false) else (if (wrap64 (x7 + x12)) ≤ 100000 then ((impl_SignalAt.f x5 x336000 x336001 x336002 (wrap64 (x7 + x12))).bind fun bt344 => (if bt344.2 = true then (if bt344.1 = x8 then (laws_FnSignalsGo.j1 k x1 x5 x7 x8 x336000 x336001 x336002) else (some false)) else (some false))) else (laws_FnSignalsGo.j1 k x1 x5 x7 x8 x336000 x336001 x336002))))) else (laws_FnSignalsGo.j3 k x1))
def laws_FnSignalsGo.j3 : Nat → List Int → Option (Bool)
  | 0, _ => none
  | k + 1, x1 => (spec_DrawTimesAt.f x1).bind fun bt348 => ((impl_TimesAt.f k bt348.1 bt348.2.1 bt348.2.2.1 bt348.2.2.2.1 bt348.2.2.2.2.1 bt348.2.2.2.2.2).bind fun bt355 => ((spec_TimesAt.f k bt348.1 bt348.2.1 bt348.2.2.1 bt348.2.2.2.1 bt348.2.2.2.2.1 bt348.2.2.2.2.2).bind fun bt359 => ((spec_DrawFirstMeeting.f x1).bind fun bt363 => ((impl_FirstMeeting.f k bt363.1 bt363.2.1 bt363.2.2.1 bt363.2.2.2.1 bt363.2.2.2.2.1 bt363.2.2.2.2.2.1 bt363.2.2.2.2.2.2).bind fun bt372 => ((spec_FirstMeeting.f k bt363.1 bt363.2.1 bt363.2.2.1 bt363.2.2.2.1 bt363.2.2.2.2.1 bt363.2.2.2.2.2.1 bt363.2.2.2.2.2.2).bind fun bt375 => ((spec_DrawCountMeetings.f x1).bind fun bt378 => ((impl_CountMeetings.f k bt378.1 bt378.2.1 bt378.2.2.1 bt378.2.2.2.1 bt378.2.2.2.2.1 bt378.2.2.2.2.2.1 bt378.2.2.2.2.2.2.1 bt378.2.2.2.2.2.2.2).bind fun bt388 => ((spec_CountMeetings.f k bt378.1 bt378.2.1 bt378.2.2.1 bt378.2.2.2.1 bt378.2.2.2.2.1 bt378.2.2.2.2.2.1 bt378.2.2.2.2.2.2.1 bt378.2.2.2.2.2.2.2).bind fun bt390 => (if (bt355.2 != bt359.2) = true then (some false) else ((laws_vSame.f k bt355.1 bt359.1).bind fun t392 => (if t392 = true then (if (bt372.2.2 != bt375.2.2) = true then (some false) else (if bt372.1 = bt375.1 then (if bt372.2.1 = bt375.2.1 then (if (bt388.2 != bt390.2) = true then (some false) else (if bt388.1 = bt390.1 then (if bt355.2 = true then ((laws_vRises.f k bt355.1).bind fun t393 => (if t393 = true then (laws_FnSignalsGo.l0 k bt348.1 bt348.2.2.2.2.1 bt348.2.2.2.2.2 bt363.1 bt372.1 bt372.2.1 bt372.2.2 bt378.2.2.2.2.2.2.2 bt388.1 bt388.2 bt355.1 (bt355.1.length : Int) 0 bt348.2.1 bt348.2.2.1 bt348.2.2.2.1 bt363.2.1 bt363.2.2.1 bt363.2.2.2.1 bt363.2.2.2.2.1 bt363.2.2.2.2.2.1 bt363.2.2.2.2.2.2) else (some false))) else (laws_FnSignalsGo.j5 k bt363.1 bt372.1 bt372.2.1 bt372.2.2 bt378.2.2.2.2.2.2.2 bt388.1 bt388.2 bt363.2.1 bt363.2.2.1 bt363.2.2.2.1 bt363.2.2.2.2.1 bt363.2.2.2.2.2.1 bt363.2.2.2.2.2.2)) else (some false))) else (some false)) else (some false))) else (some false))))))))))))
def laws_FnSignalsGo.j5 : Nat → Int → Int → Int → Bool → Int → Int → Bool → Int → Bool → Int → Int → Bool → Int → Option (Bool)
  | 0, _, _, _, _, _, _, _, _, _, _, _, _, _ => none
  | k + 1, x29, x32, x33, x34, x41, x42, x43, x371000, x371001, x371002, x372000, x372001, x372002 => if x34 = true then ((impl_SignalAt.f x29 x371000 x371001 x371002 x32).bind fun bt397 => ((impl_SignalAt.f x29 x372000 x372001 x372002 x32).bind fun bt399 => ((impl_FirstMeeting.f k x29 x372000 x372001 x372002 x371000 x371001 x371002).bind fun bt401 => (if bt397.2 = true then (if bt397.1 = x33 then (if bt399.2 = true then (if bt399.1 = x33 then (if bt401.2.2 = true then (if bt401.1 = x32 then (if bt401.2.1 = x33 then (if x32 ≤ 1000 then ((impl_CountMeetings.f k x29 x371000 x371001 x371002 x372000 x372001 x372002 x32).bind fun bt404 => (if bt404.2 = true then (if bt404.1 = 1 then (if x43 = true then (if x42 < 0 then (some false) else (if x42 > (wrap64 (x41 + 1)) then (some false) else (some true))) else (some true)) else (some false)) else (some false))) else (if x43 = true then (if x42 < 0 then (some false) else (if x42 > (wrap64 (x41 + 1)) then (some false) else (some true))) else (some true))) else (some false)) else (some false)) else (some false)) else (some false)) else (some false)) else (some false)) else (some false))))) else (if x43 = true then (if x42 < 0 then (some false) else (if x42 > (wrap64 (x41 + 1)) then (some false) else (some true))) else (some true))
def laws_FnSignalsGo.l0 : Nat → Int → Int → Int → Int → Int → Int → Bool → Int → Int → Bool → List Int → Int → Int → Int → Bool → Int → Int → Bool → Int → Int → Bool → Int → Option (Bool)
  | 0, _, _, _, _, _, _, _, _, _, _, _, _, _, _, _, _, _, _, _, _, _, _ => none
  | k + 1, x21, x23, x24, x29, x32, x33, x34, x41, x42, x43, x303, x304, x305, x355000, x355001, x355002, x371000, x371001, x371002, x372000, x372001, x372002 => if x305 < x304 then (if 0 ≤ x305 then (if x305 < (x303.length : Int) then ((impl_SignalAt.f x21 x355000 x355001 x355002 (rd x303 x305)).bind fun bt395 => (if (rd x303 x305) < 0 then (some false) else (if (rd x303 x305) > x24 then (some false) else (if x355002 = 0 then (none) else (if (Int.tmod (rd x303 x305) x355002) = 0 then (if bt395.2 = true then (if bt395.1 = x23 then (laws_FnSignalsGo.l0 k x21 x23 x24 x29 x32 x33 x34 x41 x42 x43 x303 x304 (wrap64 (x305 + 1)) x355000 x355001 x355002 x371000 x371001 x371002 x372000 x372001 x372002) else (some false)) else (some false)) else (some false)))))) else (none)) else (none)) else (laws_FnSignalsGo.j5 k x29 x32 x33 x34 x41 x42 x43 x371000 x371001 x371002 x372000 x372001 x372002)
def laws_FnSignalsGo.j1 : Nat → List Int → Int → Int → Int → Int → Bool → Int → Option (Bool)
  | 0, _, _, _, _, _, _, _ => none
  | k + 1, x1, x5, x7, x8, x336000, x336001, x336002 => if x7 < 100000 then ((impl_SignalAt.f x5 x336000 x336001 x336002 (wrap64 (x7 + 1))).bind fun bt346 => (if bt346.2 = true then (if (wrap64 (bt346.1 - x8)) < (-1) then (some false) else (if (wrap64 (bt346.1 - x8)) > 1 then (some false) else (if x5 > 1 then (if x336002 = 0 then (none) else (laws_FnSignalsGo.j2 k x1 x7 x8 (((wrap64 (bt346.1 - x8)) != 0) != ((Int.tmod (wrap64 (x7 + 1)) x336002) == 0)) x336000 x336001 x336002)) else (laws_FnSignalsGo.j2 k x1 x7 x8 (((wrap64 (bt346.1 - x8)) != 0) != false) x336000 x336001 x336002)))) else (some false))) else (if x7 = 0 then (if x8 = x336000 then (laws_FnSignalsGo.j3 k x1) else (some false)) else (laws_FnSignalsGo.j3 k x1))
def laws_FnSignalsGo.j2 : Nat → List Int → Int → Int → Bool → Int → Bool → Int → Option (Bool)
  | 0, _, _, _, _, _, _, _ => none
  | k + 1, x1, x7, x8, x188, x336000, x336001, x336002 => if x188 = true then (some false) else (if x7 = 0 then (if x8 = x336000 then (laws_FnSignalsGo.j3 k x1) else (some false)) else (laws_FnSignalsGo.j3 k x1))
end
def laws_FnSignalsGo.f (k : Nat) (l0 : List Int) (l1 : List Int) : Option (Bool) := (laws_big.f l0 l1).bind fun t329 => (if t329 = true then (some true) else ((spec_DrawSignalAt.f l0).bind fun bt330 => ((impl_SignalAt.f bt330.1 bt330.2.1 bt330.2.2.1 bt330.2.2.2.1 bt330.2.2.2.2).bind fun bt336 => ((spec_SignalAt.f bt330.1 bt330.2.1 bt330.2.2.1 bt330.2.2.2.1 bt330.2.2.2.2).bind fun bt338 => ((impl_SignalPeriod.f bt330.1 bt330.2.1 bt330.2.2.1 bt330.2.2.2.1).bind fun bt340 => ((spec_SignalPeriod.f bt330.1 bt330.2.1 bt330.2.2.1 bt330.2.2.2.1).bind fun bt342 => (if (bt336.2 != bt338.2) = true then (some false) else (if bt336.1 = bt338.1 then (if (bt340.2 != bt342.2) = true then (some false) else (if bt340.1 = bt342.1 then (if bt336.2 = true then (laws_FnSignalsGo.j0 k l1 bt330.1 bt330.2.2.2.2 bt336.1 bt336.2 bt340.1 (!bt340.2) bt330.2.1 bt330.2.2.1 bt330.2.2.2.1) else (laws_FnSignalsGo.j0 k l1 bt330.1 bt330.2.2.2.2 bt336.1 bt336.2 bt340.1 false bt330.2.1 bt330.2.2.1 bt330.2.2.2.1)) else (some false))) else (some false)))))))))
theorem laws_FnSignalsGo.mono_l : ∀ k, (∀ y0 y1 y2 y3 y4 y5 y6 y7 y8 y9, LeO (laws_FnSignalsGo.j0 k y0 y1 y2 y3 y4 y5 y6 y7 y8 y9) (laws_FnSignalsGo.j0 (k + 1) y0 y1 y2 y3 y4 y5 y6 y7 y8 y9)) ∧ (∀ y0, LeO (laws_FnSignalsGo.j3 k y0) (laws_FnSignalsGo.j3 (k + 1) y0)) ∧ (∀ y0 y1 y2 y3 y4 y5 y6 y7 y8 y9 y10 y11 y12, LeO (laws_FnSignalsGo.j5 k y0 y1 y2 y3 y4 y5 y6 y7 y8 y9 y10 y11 y12) (laws_FnSignalsGo.j5 (k + 1) y0 y1 y2 y3 y4 y5 y6 y7 y8 y9 y10 y11 y12)) ∧ (∀ y0 y1 y2 y3 y4 y5 y6 y7 y8 y9 y10 y11 y12 y13 y14 y15 y16 y17 y18 y19 y20 y21, LeO (laws_FnSignalsGo.l0 k y0 y1 y2 y3 y4 y5 y6 y7 y8 y9 y10 y11 y12 y13 y14 y15 y16 y17 y18 y19 y20 y21) (laws_FnSignalsGo.l0 (k + 1) y0 y1 y2 y3 y4 y5 y6 y7 y8 y9 y10 y11 y12 y13 y14 y15 y16 y17 y18 y19 y20 y21)) ∧ (∀ y0 y1 y2 y3 y4 y5 y6, LeO (laws_FnSignalsGo.j1 k y0 y1 y2 y3 y4 y5 y6) (laws_FnSignalsGo.j1 (k + 1) y0 y1 y2 y3 y4 y5 y6)) ∧ (∀ y0 y1 y2 y3 y4 y5 y6, LeO (laws_FnSignalsGo.j2 k y0 y1 y2 y3 y4 y5 y6) (laws_FnSignalsGo.j2 (k + 1) y0 y1 y2 y3 y4 y5 y6))
  | 0 => ⟨fun _ _ _ _ _ _ _ _ _ _ r h => by simp [laws_FnSignalsGo.j0] at h, fun _ r h => by simp [laws_FnSignalsGo.j3] at h, fun _ _ _ _ _ _ _ _ _ _ _ _ _ r h => by simp [laws_FnSignalsGo.j5] at h, fun _ _ _ _ _ _ _ _ _ _ _ _ _ _ _ _ _ _ _ _ _ _ r h => by simp [laws_FnSignalsGo.l0] at h, fun _ _ _ _ _ _ _ r h => by simp [laws_FnSignalsGo.j1] at h, fun _ _ _ _ _ _ _ r h => by simp [laws_FnSignalsGo.j2] at h⟩
  | k + 1 => by
    obtain ⟨ih0, ih1, ih2, ih3, ih4, ih5⟩ := laws_FnSignalsGo.mono_l k
    refine ⟨?_, ?_, ?_, ?_, ?_, ?_⟩
    · intro y0 y1 y2 y3 y4 y5 y6 y7 y8 y9
      unfold laws_FnSignalsGo.j0
      repeat' first
      | (with_reducible exact ih0 _ _ _ _ _ _ _ _ _ _)
      | (with_reducible exact ih1 _)
      | (with_reducible exact ih2 _ _ _ _ _ _ _ _ _ _ _ _ _)
      | (with_reducible exact ih3 _ _ _ _ _ _ _ _ _ _ _ _ _ _ _ _ _ _ _ _ _ _)
      | (with_reducible exact ih4 _ _ _ _ _ _ _)
      | (with_reducible exact ih5 _ _ _ _ _ _ _)
      | (with_reducible exact impl_CountMeetings.mono _ _ _ _ _ _ _ _ _)
      | (with_reducible exact impl_FirstMeeting.mono _ _ _ _ _ _ _ _)
      | (with_reducible exact impl_TimesAt.mono _ _ _ _ _ _ _)
      | (with_reducible exact laws_vRises.mono _ _)
      | (with_reducible exact laws_vSame.mono _ _ _)
      | (with_reducible exact spec_CountMeetings.mono _ _ _ _ _ _ _ _ _)
      | (with_reducible exact spec_FirstMeeting.mono _ _ _ _ _ _ _ _)
      | (with_reducible exact spec_TimesAt.mono _ _ _ _ _ _ _)
      | (with_reducible exact LeO.refl _)
      | (with_reducible exact LeO.none _)
      | (with_reducible refine LeO.ite ?_ ?_)
      | (with_reducible refine LeO.bind ?_ (fun _ => ?_))
      | exact ih0 _ _ _ _ _ _ _ _ _ _
      | exact ih1 _
      | exact ih2 _ _ _ _ _ _ _ _ _ _ _ _ _
      | exact ih3 _ _ _ _ _ _ _ _ _ _ _ _ _ _ _ _ _ _ _ _ _ _
      | exact ih4 _ _ _ _ _ _ _
      | exact ih5 _ _ _ _ _ _ _
      | exact impl_CountMeetings.mono _ _ _ _ _ _ _ _ _
      | exact impl_FirstMeeting.mono _ _ _ _ _ _ _ _
      | exact impl_TimesAt.mono _ _ _ _ _ _ _
      | exact laws_vRises.mono _ _
      | exact laws_vSame.mono _ _ _
      | exact spec_CountMeetings.mono _ _ _ _ _ _ _ _ _
      | exact spec_FirstMeeting.mono _ _ _ _ _ _ _ _
      | exact spec_TimesAt.mono _ _ _ _ _ _ _
      | exact LeO.none _
      | refine LeO.ite ?_ ?_
      | refine LeO.bind ?_ (fun _ => ?_)
    · intro y0
      unfold laws_FnSignalsGo.j3
      repeat' first
      | (with_reducible exact ih0 _ _ _ _ _ _ _ _ _ _)
      | (with_reducible exact ih1 _)
      | (with_reducible exact ih2 _ _ _ _ _ _ _ _ _ _ _ _ _)
      | (with_reducible exact ih3 _ _ _ _ _ _ _ _ _ _ _ _ _ _ _ _ _ _ _ _ _ _)
      | (with_reducible exact ih4 _ _ _ _ _ _ _)
      | (with_reducible exact ih5 _ _ _ _ _ _ _)
      | (with_reducible exact impl_CountMeetings.mono _ _ _ _ _ _ _ _ _)
      | (with_reducible exact impl_FirstMeeting.mono _ _ _ _ _ _ _ _)
      | (with_reducible exact impl_TimesAt.mono _ _ _ _ _ _ _)
      | (with_reducible exact laws_vRises.mono _ _)
      | (with_reducible exact laws_vSame.mono _ _ _)
      | (with_reducible exact spec_CountMeetings.mono _ _ _ _ _ _ _ _ _)
      | (with_reducible exact spec_FirstMeeting.mono _ _ _ _ _ _ _ _)
      | (with_reducible exact spec_TimesAt.mono _ _ _ _ _ _ _)
      | (with_reducible exact LeO.refl _)
      | (with_reducible exact LeO.none _)
      | (with_reducible refine LeO.ite ?_ ?_)
      | (with_reducible refine LeO.bind ?_ (fun _ => ?_))
      | exact ih0 _ _ _ _ _ _ _ _ _ _
      | exact ih1 _
      | exact ih2 _ _ _ _ _ _ _ _ _ _ _ _ _
      | exact ih3 _ _ _ _ _ _ _ _ _ _ _ _ _ _ _ _ _ _ _ _ _ _
      | exact ih4 _ _ _ _ _ _ _
      | exact ih5 _ _ _ _ _ _ _
      | exact impl_CountMeetings.mono _ _ _ _ _ _ _ _ _
      | exact impl_FirstMeeting.mono _ _ _ _ _ _ _ _
      | exact impl_TimesAt.mono _ _ _ _ _ _ _
      | exact laws_vRises.mono _ _
      | exact laws_vSame.mono _ _ _
      | exact spec_CountMeetings.mono _ _ _ _ _ _ _ _ _
      | exact spec_FirstMeeting.mono _ _ _ _ _ _ _ _
      | exact spec_TimesAt.mono _ _ _ _ _ _ _
      | exact LeO.none _
      | refine LeO.ite ?_ ?_
      | refine LeO.bind ?_ (fun _ => ?_)
    · intro y0 y1 y2 y3 y4 y5 y6 y7 y8 y9 y10 y11 y12
      unfold laws_FnSignalsGo.j5
      repeat' first
      | (with_reducible exact ih0 _ _ _ _ _ _ _ _ _ _)
      | (with_reducible exact ih1 _)
      | (with_reducible exact ih2 _ _ _ _ _ _ _ _ _ _ _ _ _)
      | (with_reducible exact ih3 _ _ _ _ _ _ _ _ _ _ _ _ _ _ _ _ _ _ _ _ _ _)
      | (with_reducible exact ih4 _ _ _ _ _ _ _)
      | (with_reducible exact ih5 _ _ _ _ _ _ _)
      | (with_reducible exact impl_CountMeetings.mono _ _ _ _ _ _ _ _ _)
      | (with_reducible exact impl_FirstMeeting.mono _ _ _ _ _ _ _ _)
      | (with_reducible exact impl_TimesAt.mono _ _ _ _ _ _ _)
      | (with_reducible exact laws_vRises.mono _ _)
      | (with_reducible exact laws_vSame.mono _ _ _)
      | (with_reducible exact spec_CountMeetings.mono _ _ _ _ _ _ _ _ _)
      | (with_reducible exact spec_FirstMeeting.mono _ _ _ _ _ _ _ _)
      | (with_reducible exact spec_TimesAt.mono _ _ _ _ _ _ _)
      | (with_reducible exact LeO.refl _)
      | (with_reducible exact LeO.none _)
      | (with_reducible refine LeO.ite ?_ ?_)
      | (with_reducible refine LeO.bind ?_ (fun _ => ?_))
      | exact ih0 _ _ _ _ _ _ _ _ _ _
      | exact ih1 _
      | exact ih2 _ _ _ _ _ _ _ _ _ _ _ _ _
      | exact ih3 _ _ _ _ _ _ _ _ _ _ _ _ _ _ _ _ _ _ _ _ _ _
      | exact ih4 _ _ _ _ _ _ _
      | exact ih5 _ _ _ _ _ _ _
      | exact impl_CountMeetings.mono _ _ _ _ _ _ _ _ _
      | exact impl_FirstMeeting.mono _ _ _ _ _ _ _ _
      | exact impl_TimesAt.mono _ _ _ _ _ _ _
      | exact laws_vRises.mono _ _
      | exact laws_vSame.mono _ _ _
      | exact spec_CountMeetings.mono _ _ _ _ _ _ _ _ _
      | exact spec_FirstMeeting.mono _ _ _ _ _ _ _ _
      | exact spec_TimesAt.mono _ _ _ _ _ _ _
      | exact LeO.none _
      | refine LeO.ite ?_ ?_
      | refine LeO.bind ?_ (fun _ => ?_)
    · intro y0 y1 y2 y3 y4 y5 y6 y7 y8 y9 y10 y11 y12 y13 y14 y15 y16 y17 y18 y19 y20 y21
      unfold laws_FnSignalsGo.l0
      repeat' first
      | (with_reducible exact ih0 _ _ _ _ _ _ _ _ _ _)
      | (with_reducible exact ih1 _)
      | (with_reducible exact ih2 _ _ _ _ _ _ _ _ _ _ _ _ _)
      | (with_reducible exact ih3 _ _ _ _ _ _ _ _ _ _ _ _ _ _ _ _ _ _ _ _ _ _)
      | (with_reducible exact ih4 _ _ _ _ _ _ _)
      | (with_reducible exact ih5 _ _ _ _ _ _ _)
      | (with_reducible exact impl_CountMeetings.mono _ _ _ _ _ _ _ _ _)
      | (with_reducible exact impl_FirstMeeting.mono _ _ _ _ _ _ _ _)
      | (with_reducible exact impl_TimesAt.mono _ _ _ _ _ _ _)
      | (with_reducible exact laws_vRises.mono _ _)
      | (with_reducible exact laws_vSame.mono _ _ _)
      | (with_reducible exact spec_CountMeetings.mono _ _ _ _ _ _ _ _ _)
      | (with_reducible exact spec_FirstMeeting.mono _ _ _ _ _ _ _ _)
      | (with_reducible exact spec_TimesAt.mono _ _ _ _ _ _ _)
      | (with_reducible exact LeO.refl _)
      | (with_reducible exact LeO.none _)
      | (with_reducible refine LeO.ite ?_ ?_)
      | (with_reducible refine LeO.bind ?_ (fun _ => ?_))
      | exact ih0 _ _ _ _ _ _ _ _ _ _
      | exact ih1 _
      | exact ih2 _ _ _ _ _ _ _ _ _ _ _ _ _
      | exact ih3 _ _ _ _ _ _ _ _ _ _ _ _ _ _ _ _ _ _ _ _ _ _
      | exact ih4 _ _ _ _ _ _ _
      | exact ih5 _ _ _ _ _ _ _
      | exact impl_CountMeetings.mono _ _ _ _ _ _ _ _ _
      | exact impl_FirstMeeting.mono _ _ _ _ _ _ _ _
      | exact impl_TimesAt.mono _ _ _ _ _ _ _
      | exact laws_vRises.mono _ _
      | exact laws_vSame.mono _ _ _
      | exact spec_CountMeetings.mono _ _ _ _ _ _ _ _ _
      | exact spec_FirstMeeting.mono _ _ _ _ _ _ _ _
      | exact spec_TimesAt.mono _ _ _ _ _ _ _
      | exact LeO.none _
      | refine LeO.ite ?_ ?_
      | refine LeO.bind ?_ (fun _ => ?_)
    · intro y0 y1 y2 y3 y4 y5 y6
      unfold laws_FnSignalsGo.j1
      repeat' first
      | (with_reducible exact ih0 _ _ _ _ _ _ _ _ _ _)
      | (with_reducible exact ih1 _)
      | (with_reducible exact ih2 _ _ _ _ _ _ _ _ _ _ _ _ _)
      | (with_reducible exact ih3 _ _ _ _ _ _ _ _ _ _ _ _ _ _ _ _ _ _ _ _ _ _)
      | (with_reducible exact ih4 _ _ _ _ _ _ _)
      | (with_reducible exact ih5 _ _ _ _ _ _ _)
      | (with_reducible exact impl_CountMeetings.mono _ _ _ _ _ _ _ _ _)
      | (with_reducible exact impl_FirstMeeting.mono _ _ _ _ _ _ _ _)
      | (with_reducible exact impl_TimesAt.mono _ _ _ _ _ _ _)
      | (with_reducible exact laws_vRises.mono _ _)
      | (with_reducible exact laws_vSame.mono _ _ _)
      | (with_reducible exact spec_CountMeetings.mono _ _ _ _ _ _ _ _ _)
      | (with_reducible exact spec_FirstMeeting.mono _ _ _ _ _ _ _ _)
      | (with_reducible exact spec_TimesAt.mono _ _ _ _ _ _ _)
      | (with_reducible exact LeO.refl _)
      | (with_reducible exact LeO.none _)
      | (with_reducible refine LeO.ite ?_ ?_)
      | (with_reducible refine LeO.bind ?_ (fun _ => ?_))
      | exact ih0 _ _ _ _ _ _ _ _ _ _
      | exact ih1 _
      | exact ih2 _ _ _ _ _ _ _ _ _ _ _ _ _
      | exact ih3 _ _ _ _ _ _ _ _ _ _ _ _ _ _ _ _ _ _ _ _ _ _
      | exact ih4 _ _ _ _ _ _ _
      | exact ih5 _ _ _ _ _ _ _
      | exact impl_CountMeetings.mono _ _ _ _ _ _ _ _ _
      | exact impl_FirstMeeting.mono _ _ _ _ _ _ _ _
      | exact impl_TimesAt.mono _ _ _ _ _ _ _
      | exact laws_vRises.mono _ _
      | exact laws_vSame.mono _ _ _
      | exact spec_CountMeetings.mono _ _ _ _ _ _ _ _ _
      | exact spec_FirstMeeting.mono _ _ _ _ _ _ _ _
      | exact spec_TimesAt.mono _ _ _ _ _ _ _
      | exact LeO.none _
      | refine LeO.ite ?_ ?_
      | refine LeO.bind ?_ (fun _ => ?_)
    · intro y0 y1 y2 y3 y4 y5 y6
      unfold laws_FnSignalsGo.j2
      repeat' first
      | (with_reducible exact ih0 _ _ _ _ _ _ _ _ _ _)
      | (with_reducible exact ih1 _)
      | (with_reducible exact ih2 _ _ _ _ _ _ _ _ _ _ _ _ _)
      | (with_reducible exact ih3 _ _ _ _ _ _ _ _ _ _ _ _ _ _ _ _ _ _ _ _ _ _)
      | (with_reducible exact ih4 _ _ _ _ _ _ _)
      | (with_reducible exact ih5 _ _ _ _ _ _ _)
      | (with_reducible exact impl_CountMeetings.mono _ _ _ _ _ _ _ _ _)
      | (with_reducible exact impl_FirstMeeting.mono _ _ _ _ _ _ _ _)
      | (with_reducible exact impl_TimesAt.mono _ _ _ _ _ _ _)
      | (with_reducible exact laws_vRises.mono _ _)
      | (with_reducible exact laws_vSame.mono _ _ _)
      | (with_reducible exact spec_CountMeetings.mono _ _ _ _ _ _ _ _ _)
      | (with_reducible exact spec_FirstMeeting.mono _ _ _ _ _ _ _ _)
      | (with_reducible exact spec_TimesAt.mono _ _ _ _ _ _ _)
      | (with_reducible exact LeO.refl _)
      | (with_reducible exact LeO.none _)
      | (with_reducible refine LeO.ite ?_ ?_)
      | (with_reducible refine LeO.bind ?_ (fun _ => ?_))
      | exact ih0 _ _ _ _ _ _ _ _ _ _
      | exact ih1 _
      | exact ih2 _ _ _ _ _ _ _ _ _ _ _ _ _
      | exact ih3 _ _ _ _ _ _ _ _ _ _ _ _ _ _ _ _ _ _ _ _ _ _
      | exact ih4 _ _ _ _ _ _ _
      | exact ih5 _ _ _ _ _ _ _
      | exact impl_CountMeetings.mono _ _ _ _ _ _ _ _ _
      | exact impl_FirstMeeting.mono _ _ _ _ _ _ _ _
      | exact impl_TimesAt.mono _ _ _ _ _ _ _
      | exact laws_vRises.mono _ _
      | exact laws_vSame.mono _ _ _
      | exact spec_CountMeetings.mono _ _ _ _ _ _ _ _ _
      | exact spec_FirstMeeting.mono _ _ _ _ _ _ _ _
      | exact spec_TimesAt.mono _ _ _ _ _ _ _
      | exact LeO.none _
      | refine LeO.ite ?_ ?_
      | refine LeO.bind ?_ (fun _ => ?_)
theorem laws_FnSignalsGo.mono : ∀ a0 a1 k, LeO (laws_FnSignalsGo.f k a0 a1) (laws_FnSignalsGo.f (k + 1) a0 a1) := by
  intro a0 a1 k
  obtain ⟨ih0, ih1, ih2, ih3, ih4, ih5⟩ := laws_FnSignalsGo.mono_l k
  unfold laws_FnSignalsGo.f
  repeat' first
      | (with_reducible exact ih0 _ _ _ _ _ _ _ _ _ _)
      | (with_reducible exact ih1 _)
      | (with_reducible exact ih2 _ _ _ _ _ _ _ _ _ _ _ _ _)
      | (with_reducible exact ih3 _ _ _ _ _ _ _ _ _ _ _ _ _ _ _ _ _ _ _ _ _ _)
      | (with_reducible exact ih4 _ _ _ _ _ _ _)
      | (with_reducible exact ih5 _ _ _ _ _ _ _)
      | (with_reducible exact impl_CountMeetings.mono _ _ _ _ _ _ _ _ _)
      | (with_reducible exact impl_FirstMeeting.mono _ _ _ _ _ _ _ _)
      | (with_reducible exact impl_TimesAt.mono _ _ _ _ _ _ _)
      | (with_reducible exact laws_vRises.mono _ _)
      | (with_reducible exact laws_vSame.mono _ _ _)
      | (with_reducible exact spec_CountMeetings.mono _ _ _ _ _ _ _ _ _)
      | (with_reducible exact spec_FirstMeeting.mono _ _ _ _ _ _ _ _)
      | (with_reducible exact spec_TimesAt.mono _ _ _ _ _ _ _)
      | (with_reducible exact LeO.refl _)
      | (with_reducible exact LeO.none _)
      | (with_reducible refine LeO.ite ?_ ?_)
      | (with_reducible refine LeO.bind ?_ (fun _ => ?_))
      | exact ih0 _ _ _ _ _ _ _ _ _ _
      | exact ih1 _
      | exact ih2 _ _ _ _ _ _ _ _ _ _ _ _ _
      | exact ih3 _ _ _ _ _ _ _ _ _ _ _ _ _ _ _ _ _ _ _ _ _ _
      | exact ih4 _ _ _ _ _ _ _
      | exact ih5 _ _ _ _ _ _ _
      | exact impl_CountMeetings.mono _ _ _ _ _ _ _ _ _
      | exact impl_FirstMeeting.mono _ _ _ _ _ _ _ _
      | exact impl_TimesAt.mono _ _ _ _ _ _ _
      | exact laws_vRises.mono _ _
      | exact laws_vSame.mono _ _ _
      | exact spec_CountMeetings.mono _ _ _ _ _ _ _ _ _
      | exact spec_FirstMeeting.mono _ _ _ _ _ _ _ _
      | exact spec_TimesAt.mono _ _ _ _ _ _ _
      | exact LeO.none _
      | refine LeO.ite ?_ ?_
      | refine LeO.bind ?_ (fun _ => ?_)
set_option maxHeartbeats 80000000 in
set_option maxRecDepth 100000 in
theorem laws_FnSignalsGo.calls (k : Nat) (A0 : Option Addr) (c0 : Nat) (l0 : List Int) (A1 : Option Addr) (c1 : Nat) (l1 : List Int) (r : Bool) (w : World) (hr0 : Kd.C (Kd.int .u8) w A0 l0.length l0) (hc0 : l0.length ≤ c0) (hr1 : Kd.C (Kd.int .u8) w A1 l1.length l1) (hc1 : l1.length ≤ c1) (hrt : r = true) (h : laws_FnSignalsGo.f k l0 l1 = some r) :
  Calls Try.prog 3 #[.slice A0 l0.length c0, .slice A1 l1.length c1] w fun e w' => e = .returned (.bool r) ∧ Below w.heap.size w w' := by
 have hu25 := Try.underlying25
 have HR0 := Aside0.mk hr0
 have HC0 := Aside0.mk hc0
 clear hr0 hc0
 have HR1 := Aside0.mk hr1
 have HC1 := Aside0.mk hc1
 clear hr1 hc1
 have HB := Aside0.mk (Below.refl w.heap.size w)
 have HRT := Aside0.mk hrt
 clear hrt
 unfold laws_FnSignalsGo.f at h
 have H := h
 clear h
 replace H := Option.bind_eq_some_iff.mp H
 obtain ⟨t329, A30, H⟩ := H
 (try dsimp only at H)
 have A3 := Aside0.mk A30
 clear A30
 by_cases c4 : t329 = true
 ·subst c4
  rw [if_pos rfl] at H
  obtain rfl := Option.some.inj H
  go_enter Try.func3, Try.ntmps3
  go_wp2_with (first | ((with_reducible refine gate_callee (f := 4) rfl ?_); refine gl (some 61) Try.func4 #[.slice A0 l0.length c0, .slice A1 l1.length c1] ?_; (with_reducible refine (laws_big.calls _ _ l0 _ _ l1 true _ ?side1 ?side2 ?side3 ?side4 A3.out).mono ?_); (case side1 => repeat (first | exact HR0.out | (with_reducible refine Kd.C_alloc ?_ _) | (with_reducible refine Kd.C_drewN ?_ _) | (with_reducible refine Kd.C_drew ?_))); (case side2 => exact HC0.out); (case side3 => repeat (first | exact HR1.out | (with_reducible refine Kd.C_alloc ?_ _) | (with_reducible refine Kd.C_drewN ?_ _) | (with_reducible refine Kd.C_drew ?_))); (case side4 => exact HC1.out); rintro e w' ⟨rfl, ⟨nd, rfl⟩⟩; refine ⟨_, rfl, ?_⟩))
  go_ret
  exact ⟨rs, bw⟩
 ·replace c4 := Bool.eq_false_iff.mpr c4
  subst c4
  rw [if_neg (show ¬ (false = true) by decide)] at H
  replace H := Option.bind_eq_some_iff.mp H
  obtain ⟨⟨t330, t331, t332, t333, t334⟩, A50, H⟩ := H
  (try dsimp only at H)
  have A5 := Aside0.mk A50
  clear A50
  replace H := Option.bind_eq_some_iff.mp H
  obtain ⟨⟨t336, t337⟩, A60, H⟩ := H
  (try dsimp only at H)
  have A6 := Aside0.mk A60
  clear A60
  replace H := Option.bind_eq_some_iff.mp H
  obtain ⟨⟨t338, t339⟩, A70, H⟩ := H
  (try dsimp only at H)
  have A7 := Aside0.mk A70
  clear A70
  replace H := Option.bind_eq_some_iff.mp H
  obtain ⟨⟨t340, t341⟩, A80, H⟩ := H
  (try dsimp only at H)
  have A8 := Aside0.mk A80
  clear A80
  replace H := Option.bind_eq_some_iff.mp H
  obtain ⟨⟨t342, t343⟩, A90, H⟩ := H
  (try dsimp only at H)
  have A9 := Aside0.mk A90
  clear A90
  have HC10 := Aside0.mk H
  clear H
  go_enter Try.func3, Try.ntmps3
  go_upto_region 8 with (first | ((with_reducible refine gate_callee (f := 4) rfl ?_); refine gl (some 61) Try.func4 #[.slice A0 l0.length c0, .slice A1 l1.length c1] ?_; (with_reducible refine (laws_big.calls _ _ l0 _ _ l1 false _ ?side1 ?side2 ?side3 ?side4 A3.out).mono ?_); (case side1 => repeat (first | exact HR0.out | (with_reducible refine Kd.C_alloc ?_ _) | (with_reducible refine Kd.C_drewN ?_ _) | (with_reducible refine Kd.C_drew ?_))); (case side2 => exact HC0.out); (case side3 => repeat (first | exact HR1.out | (with_reducible refine Kd.C_alloc ?_ _) | (with_reducible refine Kd.C_drewN ?_ _) | (with_reducible refine Kd.C_drew ?_))); (case side4 => exact HC1.out); rintro e w' ⟨rfl, ⟨nd, rfl⟩⟩; refine ⟨_, rfl, ?_⟩) | ((with_reducible refine gate_callee (f := 5) rfl ?_); refine gl (some 64) Try.func5 #[.slice A0 l0.length c0] ?_; (with_reducible refine (spec_DrawSignalAt.calls _ _ l0 t330 t331 t332 t333 t334 _ ?side1 ?side2 A5.out).mono ?_); (case side1 => repeat (first | exact HR0.out | (with_reducible refine Kd.C_alloc ?_ _) | (with_reducible refine Kd.C_drewN ?_ _) | (with_reducible refine Kd.C_drew ?_))); (case side2 => exact HC0.out); rintro e w11 ⟨rfl, hb⟩; refine ⟨_, rfl, ?_⟩; replace HB := bs hb; (try clear hb)) | ((with_reducible refine gate_dst (N := 6) rfl ?_); refine bx 6 25 #[.int .i64 0, .bool false, .int .i64 0] ?_; intro gb335 hg w12 hbox hb; have BK335 := hbox; have GW335 := gs hg; have GE335 := gs hg; replace HB := bs hb; clear hb hbox hg; have hcz13_0 := bc BK335 0 (.int .i64 0); have hcz13_1 := bc BK335 1 (.bool false); have hcz13_2 := bc BK335 2 (.int .i64 0); have hfz13_0 := blk_frozen BK335.out 0; have hfz13_1 := blk_frozen BK335.out 1; have hfz13_2 := blk_frozen BK335.out 2) | ((with_reducible refine gate_callee (f := 6) rfl ?_); refine gl (some 72) Try.func6 #[.int .i64 t330, .agg #[.int .i64 t331, .bool t332, .int .i64 t333], .int .i64 t334] ?_; (with_reducible refine (impl_SignalAt.calls t330 t331 t332 t333 t334 t336 t337 _ A6.out).mono ?_); rintro e w14 ⟨rfl, hb⟩; refine ⟨_, rfl, ?_⟩; replace BK335 := Aside0.mk (blk_below (g := gb335) (o := .cells #[.int .i64 t331, .bool t332, .int .i64 t333] 25 (0, 0)) (by (with_reducible repeat (first | refine blk_drewN ?_ _ | refine blk_drew ?_ | refine blk_alloc ?_ _)); refine blk_put (cs := #[.int .i64 t331, .bool t332, .int .i64 0]) ?_ 2 _ rfl; (with_reducible repeat (first | refine blk_drewN ?_ _ | refine blk_drew ?_ | refine blk_alloc ?_ _)); refine blk_put (cs := #[.int .i64 t331, .bool false, .int .i64 0]) ?_ 1 _ rfl; (with_reducible repeat (first | refine blk_drewN ?_ _ | refine blk_drew ?_ | refine blk_alloc ?_ _)); refine blk_put (cs := #[.int .i64 0, .bool false, .int .i64 0]) ?_ 0 _ rfl; (with_reducible repeat (first | refine blk_drewN ?_ _ | refine blk_drew ?_ | refine blk_alloc ?_ _)); exact BK335.out) hb); replace HB := bs hb; (try clear hb); have hcz15_0 := bc BK335 0 (.int .i64 t331); have hcz15_1 := bc BK335 1 (.bool t332); have hcz15_2 := bc BK335 2 (.int .i64 t333); have hfz15_0 := blk_frozen BK335.out 0; have hfz15_1 := blk_frozen BK335.out 1; have hfz15_2 := blk_frozen BK335.out 2) | ((with_reducible refine gate_callee (f := 7) rfl ?_); refine gl (some 79) Try.func7 #[.int .i64 t330, .agg #[.int .i64 t331, .bool t332, .int .i64 t333], .int .i64 t334] ?_; (with_reducible refine (spec_SignalAt.calls t330 t331 t332 t333 t334 t338 t339 _ A7.out).mono ?_); rintro e w16 ⟨rfl, hb⟩; refine ⟨_, rfl, ?_⟩; replace BK335 := nk BK335 hb; replace HB := bs hb; (try clear hb); have hcz17_0 := bc BK335 0 (.int .i64 t331); have hcz17_1 := bc BK335 1 (.bool t332); have hcz17_2 := bc BK335 2 (.int .i64 t333); have hfz17_0 := blk_frozen BK335.out 0; have hfz17_1 := blk_frozen BK335.out 1; have hfz17_2 := blk_frozen BK335.out 2) | ((with_reducible refine gate_callee (f := 8) rfl ?_); refine gl (some 85) Try.func8 #[.int .i64 t330, .agg #[.int .i64 t331, .bool t332, .int .i64 t333]] ?_; (with_reducible refine (impl_SignalPeriod.calls t330 t331 t332 t333 t340 t341 _ A8.out).mono ?_); rintro e w18 ⟨rfl, hb⟩; refine ⟨_, rfl, ?_⟩; replace BK335 := nk BK335 hb; replace HB := bs hb; (try clear hb); have hcz19_0 := bc BK335 0 (.int .i64 t331); have hcz19_1 := bc BK335 1 (.bool t332); have hcz19_2 := bc BK335 2 (.int .i64 t333); have hfz19_0 := blk_frozen BK335.out 0; have hfz19_1 := blk_frozen BK335.out 1; have hfz19_2 := blk_frozen BK335.out 2) | ((with_reducible refine gate_callee (f := 9) rfl ?_); refine gl (some 91) Try.func9 #[.int .i64 t330, .agg #[.int .i64 t331, .bool t332, .int .i64 t333]] ?_; (with_reducible refine (spec_SignalPeriod.calls t330 t331 t332 t333 t342 t343 _ A9.out).mono ?_); rintro e w20 ⟨rfl, hb⟩; refine ⟨_, rfl, ?_⟩; replace BK335 := nk BK335 hb; replace HB := bs hb; (try clear hb)))
  (try simp only [Act.put, List.setIfInBounds_toArray, List.set_cons_zero, List.set_cons_succ])
  go_cut [61, 74, 80, 81, 82, 83, 84, 85, 86, 87, 88, 89, 90, 91, 92, 93, 118] from 9999 (fun _ _ _ _ _ _ _ _ _ _ _ _ _ _ _ _ v118 wc => ∃ (kq : Nat) (x118_9 : Bool), v118 = .bool x118_9 ∧ Aside0 (laws_FnSignalsGo.j0 kq l1 t330 t334 t336 t337 t340 x118_9 t331 t332 t333 = some r) ∧ Aside0 (kq ≤ k) ∧ Aside0 (wc.heap[gb335]? = some (.cells #[.int .i64 t331, .bool t332, .int .i64 t333] 25 (0, 0))) ∧ Aside0 (Below w.heap.size w wc))
  case first =>
   have H := HC10.out
   clear HC10
   by_cases c21 : (t337 != t339) = true
   ·rw [if_pos c21] at H
    have c21b0 : (t337 != t339) = true := c21
    (try (have c21b1 : decide (t337 = t339) = false := by simpa using c21))
    (try (have c21b2 : (t337 == t339) = false := by simpa using c21))
    (try (have c21b3 : ¬ (t337 = t339) := by simpa using c21))
    clear c21
    (first | rw [c21b0] | rw [@decide_eq_true _ _ (of_decide_eq_true c21b1)] | rw [@decide_eq_false _ _ (of_decide_eq_false c21b1)] | (simp only [i64_w, i32_w]; rw [c21b0]) | skip)
    exact absurd (Option.some.inj H) (by rw [HRT.out]; decide)
   ·rw [if_neg c21] at H
    have c21b0 : (t337 != t339) = false := by simpa using c21
    (try (have c21b1 : decide (t337 = t339) = true := by simpa using c21))
    (try (have c21b2 : (t337 == t339) = true := by simpa using c21))
    clear c21
    (first | rw [c21b0] | rw [@decide_eq_true _ _ (of_decide_eq_true c21b1)] | rw [@decide_eq_false _ _ (of_decide_eq_false c21b1)] | (simp only [i64_w, i32_w]; rw [c21b0]) | skip)
    by_cases c22 : t336 = t338
    ·rw [if_pos c22] at H
     have c22b0 : (t336 == t338) = true := beq_iff_eq.mpr c22
     have c22b1 : (t336 != t338) = false := bne_eq_false_iff_eq.mpr c22
     clear c22
     by_cases c23 : (t341 != t343) = true
     ·rw [if_pos c23] at H
      have c23b0 : (t341 != t343) = true := c23
      (try (have c23b1 : decide (t341 = t343) = false := by simpa using c23))
      (try (have c23b2 : (t341 == t343) = false := by simpa using c23))
      (try (have c23b3 : ¬ (t341 = t343) := by simpa using c23))
      clear c23
      exact absurd (Option.some.inj H) (by rw [HRT.out]; decide)
     ·rw [if_neg c23] at H
      have c23b0 : (t341 != t343) = false := by simpa using c23
      (try (have c23b1 : decide (t341 = t343) = true := by simpa using c23))
      (try (have c23b2 : (t341 == t343) = true := by simpa using c23))
      clear c23
      by_cases c24 : t340 = t342
      ·rw [if_pos c24] at H
       have c24b0 : (t340 == t342) = true := beq_iff_eq.mpr c24
       have c24b1 : (t340 != t342) = false := bne_eq_false_iff_eq.mpr c24
       clear c24
       by_cases c25 : t337 = true
       ·subst c25
        rw [if_pos rfl] at H
        have H' := Aside0.mk H
        clear H
        go_wp2
        go_meet
        case rel => exact ⟨_, (!t341), (rs), H', ⟨by first | omega | exact Nat.le_refl _⟩, ⟨pk BK335⟩, ⟨bw⟩⟩
       ·replace c25 := Bool.eq_false_iff.mpr c25
        subst c25
        rw [if_neg (show ¬ (false = true) by decide)] at H
        have H' := Aside0.mk H
        clear H
        go_wp2
        go_meet
        case rel => exact ⟨_, (false), (rs), H', ⟨by first | omega | exact Nat.le_refl _⟩, ⟨pk BK335⟩, ⟨bw⟩⟩
      ·rw [if_neg c24] at H
       have c24b0 : (t340 == t342) = false := beq_eq_false_iff_ne.mpr c24
       have c24b1 : (t340 != t342) = true := bne_iff_ne.mpr c24
       exact absurd (Option.some.inj H) (by rw [HRT.out]; decide)
    ·rw [if_neg c22] at H
     have c22b0 : (t336 == t338) = false := beq_eq_false_iff_ne.mpr c22
     have c22b1 : (t336 != t338) = true := bne_iff_ne.mpr c22
     exact absurd (Option.some.inj H) (by rw [HRT.out]; decide)
  case rest =>
   clear HC10
   try clear c1
   try clear c2
   try clear p2
   try clear c3
   try clear c4
   try clear c5
   try clear c6
   try clear c7
   try clear c8
   try clear c9
   try clear c21
   try clear c21b0
   try clear c21b1
   try clear c21b2
   try clear c22
   try clear c22b0
   try clear c22b1
   try clear c23
   try clear c23b0
   try clear c23b1
   try clear c23b2
   try clear c24
   try clear c24b0
   try clear c24b1
   try clear c25
   try clear hcz13_0
   try clear hcz13_1
   try clear hcz13_2
   try clear hcz15_0
   try clear hcz15_1
   try clear hcz15_2
   try clear hcz17_0
   try clear hcz17_1
   try clear hcz17_2
   try clear hcz19_0
   try clear hcz19_1
   try clear hcz19_2
   try clear hfz13_0
   try clear hfz13_1
   try clear hfz13_2
   try clear hfz15_0
   try clear hfz15_1
   try clear hfz15_2
   try clear hfz17_0
   try clear hfz17_1
   try clear hfz17_2
   try clear hfz19_0
   try clear hfz19_1
   try clear hfz19_2
   obtain ⟨kq, x118_9, rfl, HA, HJ9, BK335, HB⟩ := hcut
   cases kq with
   | zero => exact absurd HA.out (by simp [laws_FnSignalsGo.j0])
   | succ kj9 =>
    have H := HA.out
    clear HA
    simp only [laws_FnSignalsGo.j0] at H
    by_cases c26 : x118_9 = true
    ·subst c26
     rw [if_pos rfl] at H
     exact absurd (Option.some.inj H) (by rw [HRT.out]; decide)
    ·replace c26 := Bool.eq_false_iff.mpr c26
     subst c26
     rw [if_neg (show ¬ (false = true) by decide)] at H
     have HC27 := Aside0.mk H
     clear H
     go_upto_if 119 with (fail)
     go_cut [61, 74, 81, 87, 93, 94, 95, 96, 97, 100, 101, 102, 103, 104, 105, 106, 107, 108, 109, 110, 111, 112, 113, 114, 115, 116, 117, 118, 119] from 9999 (fun _ _ _ _ _ _ _ _ _ _ _ _ _ _ _ _ _ _ _ _ _ _ _ _ _ _ _ _ _ wc => ∃ (kq : Nat), Aside0 (laws_FnSignalsGo.j3 kq l1 = some r) ∧ Aside0 (kq ≤ kj9) ∧ Aside0 (wc.heap[gb335]? = some (.cells #[.int .i64 t331, .bool t332, .int .i64 t333] 25 (0, 0))) ∧ Aside0 (Below w.heap.size w wc))
     case first =>
      have H := HC27.out
      clear HC27
      by_cases c28 : t337 = true
      ·subst c28
       rw [if_pos rfl] at H
       by_cases c29 : t336 < 0
       ·rw [if_pos c29] at H
        have c29b0 : decide (t336 < 0) = true := decide_eq_true c29
        clear c29
        (first | rw [c29b0] | rw [@decide_eq_true _ _ (of_decide_eq_true c29b1)] | rw [@decide_eq_false _ _ (of_decide_eq_false c29b1)] | (simp only [i64_w, i32_w]; rw [c29b0]) | skip)
        exact absurd (Option.some.inj H) (by rw [HRT.out]; decide)
       ·rw [if_neg c29] at H
        have c29b0 : decide (t336 < 0) = false := decide_eq_false c29
        clear c29
        (first | rw [c29b0] | rw [@decide_eq_true _ _ (of_decide_eq_true c29b1)] | rw [@decide_eq_false _ _ (of_decide_eq_false c29b1)] | (simp only [i64_w, i32_w]; rw [c29b0]) | skip)
        by_cases c30 : t336 ≥ t330
        ·rw [if_pos c30] at H
         have c30b0 : decide (t330 ≤ t336) = true := decide_eq_true c30
         clear c30
         exact absurd (Option.some.inj H) (by rw [HRT.out]; decide)
        ·rw [if_neg c30] at H
         have c30b0 : decide (t330 ≤ t336) = false := decide_eq_false c30
         clear c30
         by_cases c31 : t340 < 1
         ·rw [if_pos c31] at H
          have c31b0 : decide (t340 < 1) = true := decide_eq_true c31
          clear c31
          exact absurd (Option.some.inj H) (by rw [HRT.out]; decide)
         ·rw [if_neg c31] at H
          have c31b0 : decide (t340 < 1) = false := decide_eq_false c31
          clear c31
          have HC32 := Aside0.mk H
          clear H
          go_upto_if 134 with (fail)
          go_cut [81, 87, 93, 94, 95, 96, 97, 100, 101, 102, 103, 104, 105, 106, 107, 110, 111, 112, 113, 114, 115, 116, 117, 118, 119, 121, 122, 123, 124, 125, 126, 127, 128, 129, 130, 131, 132, 133, 134] from 9999 (fun _ _ _ _ _ _ _ _ _ _ _ _ _ _ _ _ _ _ _ _ _ _ _ _ _ _ _ _ _ _ _ _ _ _ _ _ _ _ _ wc => ∃ (kq : Nat), Aside0 (laws_FnSignalsGo.j1 kq l1 t330 t334 t336 t331 t332 t333 = some r) ∧ Aside0 (kq ≤ kj9) ∧ Aside0 (wc.heap[gb335]? = some (.cells #[.int .i64 t331, .bool t332, .int .i64 t333] 25 (0, 0))) ∧ Aside0 (Below w.heap.size w wc))
          case first =>
           have H := HC32.out
           clear HC32
           by_cases c33 : (wrap64 (t334 + t340)) ≤ 100000
           ·rw [if_pos c33] at H
            have c33b0 : decide ((wrap64 (t334 + t340)) ≤ 100000) = true := decide_eq_true c33
            clear c33
            (first | rw [c33b0] | rw [@decide_eq_true _ _ (of_decide_eq_true c33b1)] | rw [@decide_eq_false _ _ (of_decide_eq_false c33b1)] | (simp only [i64_w, i32_w]; rw [c33b0]) | skip)
            replace H := Option.bind_eq_some_iff.mp H
            obtain ⟨⟨t344, t345⟩, A340, H⟩ := H
            (try dsimp only at H)
            have A34 := Aside0.mk A340
            clear A340
            by_cases c35 : t345 = true
            ·subst c35
             rw [if_pos rfl] at H
             by_cases c36 : t344 = t336
             ·rw [if_pos c36] at H
              have c36b0 : (t344 == t336) = true := beq_iff_eq.mpr c36
              have c36b1 : (t344 != t336) = false := bne_eq_false_iff_eq.mpr c36
              clear c36
              have H' := Aside0.mk H
              clear H
              have hcz37_0 : wc.cell? ⟨gb335, 0, none⟩ = some (.int .i64 t331) := ec BK335
              have hcz37_1 : wc.cell? ⟨gb335, 1, none⟩ = some (.bool t332) := ec BK335
              have hcz37_2 : wc.cell? ⟨gb335, 2, none⟩ = some (.int .i64 t333) := ec BK335
              have hfz37_0 := blk_frozen BK335.out 0
              have hfz37_1 := blk_frozen BK335.out 1
              have hfz37_2 := blk_frozen BK335.out 2
              go_wp2_with (first | ((with_reducible refine gate_callee (f := 6) rfl ?_); refine gl (some 141) Try.func6 #[.int .i64 t330, .agg #[.int .i64 t331, .bool t332, .int .i64 t333], .int .i64 (wrap64 (t334 + t340))] ?_; (with_reducible refine (impl_SignalAt.calls t330 t331 t332 t333 (wrap64 (t334 + t340)) t344 true _ A34.out).mono ?_); rintro e w38 ⟨rfl, hb⟩; refine ⟨_, rfl, ?_⟩; replace BK335 := nk BK335 hb; replace HB := bs hb; (try clear hb)))
              go_meet
              case rel => exact ⟨_, H', ⟨by have := HJ9.out; first | omega | exact Nat.le_refl _⟩, ⟨pk BK335⟩, ⟨bw⟩⟩
             ·rw [if_neg c36] at H
              have c36b0 : (t344 == t336) = false := beq_eq_false_iff_ne.mpr c36
              have c36b1 : (t344 != t336) = true := bne_iff_ne.mpr c36
              exact absurd (Option.some.inj H) (by rw [HRT.out]; decide)
            ·replace c35 := Bool.eq_false_iff.mpr c35
             subst c35
             rw [if_neg (show ¬ (false = true) by decide)] at H
             exact absurd (Option.some.inj H) (by rw [HRT.out]; decide)
           ·rw [if_neg c33] at H
            have c33b0 : decide ((wrap64 (t334 + t340)) ≤ 100000) = false := decide_eq_false c33
            clear c33
            (first | rw [c33b0] | rw [@decide_eq_true _ _ (of_decide_eq_true c33b1)] | rw [@decide_eq_false _ _ (of_decide_eq_false c33b1)] | (simp only [i64_w, i32_w]; rw [c33b0]) | skip)
            have H' := Aside0.mk H
            clear H
            go_wp2
            go_meet
            case rel => exact ⟨_, H', ⟨by have := HJ9.out; first | omega | exact Nat.le_refl _⟩, ⟨pk BK335⟩, ⟨bw⟩⟩
          case rest =>
           clear HC32
           try clear c1
           try clear c2
           try clear p2
           try clear c3
           try clear c4
           try clear c5
           try clear c6
           try clear p6
           try clear c7
           try clear c8
           try clear c9
           try clear c21
           try clear c21b0
           try clear c21b1
           try clear c21b2
           try clear c22
           try clear c22b0
           try clear c22b1
           try clear c23
           try clear c23b0
           try clear c23b1
           try clear c23b2
           try clear c24
           try clear c24b0
           try clear c24b1
           try clear c25
           try clear c26
           try clear c28
           try clear c29
           try clear c29b0
           try clear c30
           try clear c30b0
           try clear c31
           try clear c31b0
           try clear c33
           try clear c33b0
           try clear c35
           try clear c36
           try clear c36b0
           try clear c36b1
           try clear hcz13_0
           try clear hcz13_1
           try clear hcz13_2
           try clear hcz15_0
           try clear hcz15_1
           try clear hcz15_2
           try clear hcz17_0
           try clear hcz17_1
           try clear hcz17_2
           try clear hcz19_0
           try clear hcz19_1
           try clear hcz19_2
           try clear hcz37_0
           try clear hcz37_1
           try clear hcz37_2
           try clear hfz13_0
           try clear hfz13_1
           try clear hfz13_2
           try clear hfz15_0
           try clear hfz15_1
           try clear hfz15_2
           try clear hfz17_0
           try clear hfz17_1
           try clear hfz17_2
           try clear hfz19_0
           try clear hfz19_1
           try clear hfz19_2
           try clear hfz37_0
           try clear hfz37_1
           try clear hfz37_2
           try clear p2
           obtain ⟨kq, HA, HJ31, BK335, HB⟩ := hcut
           cases kq with
           | zero => exact absurd HA.out (by simp [laws_FnSignalsGo.j1])
           | succ kj31 =>
            have H := HA.out
            clear HA
            simp only [laws_FnSignalsGo.j1] at H
            by_cases c39 : t334 < 100000
            ·rw [if_pos c39] at H
             have c39b0 : decide (t334 < 100000) = true := decide_eq_true c39
             clear c39
             replace H := Option.bind_eq_some_iff.mp H
             obtain ⟨⟨t346, t347⟩, A400, H⟩ := H
             (try dsimp only at H)
             have A40 := Aside0.mk A400
             clear A400
             have HC41 := Aside0.mk H
             clear H
             have hcz42_0 : wc.cell? ⟨gb335, 0, none⟩ = some (.int .i64 t331) := ec BK335
             have hcz42_1 : wc.cell? ⟨gb335, 1, none⟩ = some (.bool t332) := ec BK335
             have hcz42_2 : wc.cell? ⟨gb335, 2, none⟩ = some (.int .i64 t333) := ec BK335
             have hfz42_0 := blk_frozen BK335.out 0
             have hfz42_1 := blk_frozen BK335.out 1
             have hfz42_2 := blk_frozen BK335.out 2
             go_upto_region 20 with (first | ((with_reducible refine gate_callee (f := 6) rfl ?_); refine gl (some 158) Try.func6 #[.int .i64 t330, .agg #[.int .i64 t331, .bool t332, .int .i64 t333], .int .i64 (wrap64 (t334 + 1))] ?_; (with_reducible refine (impl_SignalAt.calls t330 t331 t332 t333 (wrap64 (t334 + 1)) t346 t347 _ A40.out).mono ?_); rintro e w43 ⟨rfl, hb⟩; refine ⟨_, rfl, ?_⟩; replace BK335 := nk BK335 hb; replace HB := bs hb; (try clear hb)))
             (try simp only [Act.put, List.setIfInBounds_toArray, List.set_cons_zero, List.set_cons_succ])
             go_cut [104, 105, 106, 107, 110, 111, 112, 113, 114, 115, 116, 117, 118, 119, 121, 122, 125, 126, 127, 129, 130, 134, 143, 144, 145, 146, 149, 150, 151, 152, 153, 154, 155, 156, 157, 158, 159, 160, 161, 162, 163, 188] from 9999 (fun _ _ _ _ _ _ _ _ _ _ _ _ _ _ _ _ _ _ _ _ _ _ _ _ _ _ _ _ _ _ _ _ _ _ _ _ _ _ _ _ _ v188 wc => ∃ (kq : Nat) (x188_40 : Bool), v188 = .bool x188_40 ∧ Aside0 (laws_FnSignalsGo.j2 kq l1 t334 t336 x188_40 t331 t332 t333 = some r) ∧ Aside0 (kq ≤ kj31) ∧ Aside0 (wc.heap[gb335]? = some (.cells #[.int .i64 t331, .bool t332, .int .i64 t333] 25 (0, 0))) ∧ Aside0 (Below w.heap.size w wc))
             case first =>
              have H := HC41.out
              clear HC41
              by_cases c44 : t347 = true
              ·subst c44
               rw [if_pos rfl] at H
               by_cases c45 : (wrap64 (t346 - t336)) < (-1)
               ·rw [if_pos c45] at H
                have c45b0 : decide ((wrap64 (t346 - t336)) < (-1)) = true := decide_eq_true c45
                clear c45
                (first | rw [c45b0] | rw [@decide_eq_true _ _ (of_decide_eq_true c45b1)] | rw [@decide_eq_false _ _ (of_decide_eq_false c45b1)] | (simp only [i64_w, i32_w]; rw [c45b0]) | skip)
                exact absurd (Option.some.inj H) (by rw [HRT.out]; decide)
               ·rw [if_neg c45] at H
                have c45b0 : decide ((wrap64 (t346 - t336)) < (-1)) = false := decide_eq_false c45
                clear c45
                (first | rw [c45b0] | rw [@decide_eq_true _ _ (of_decide_eq_true c45b1)] | rw [@decide_eq_false _ _ (of_decide_eq_false c45b1)] | (simp only [i64_w, i32_w]; rw [c45b0]) | skip)
                by_cases c46 : (wrap64 (t346 - t336)) > 1
                ·rw [if_pos c46] at H
                 have c46b0 : decide (1 < (wrap64 (t346 - t336))) = true := decide_eq_true c46
                 clear c46
                 exact absurd (Option.some.inj H) (by rw [HRT.out]; decide)
                ·rw [if_neg c46] at H
                 have c46b0 : decide (1 < (wrap64 (t346 - t336))) = false := decide_eq_false c46
                 clear c46
                 by_cases c47 : t330 > 1
                 ·rw [if_pos c47] at H
                  have c47b0 : decide (1 < t330) = true := decide_eq_true c47
                  clear c47
                  by_cases c48 : t333 = 0
                  ·rw [if_pos c48] at H
                   exact absurd H (by simp)
                  ·rw [if_neg c48] at H
                   have c48b0 : (t333 == 0) = false := beq_eq_false_iff_ne.mpr c48
                   have c48b1 : (t333 != 0) = true := bne_iff_ne.mpr c48
                   have H' := Aside0.mk H
                   clear H
                   have hcz49_0 := bc BK335 0 (.int .i64 t331)
                   have hcz49_1 := bc BK335 1 (.bool t332)
                   have hcz49_2 := bc BK335 2 (.int .i64 t333)
                   have hfz49_0 := blk_frozen BK335.out 0
                   have hfz49_1 := blk_frozen BK335.out 1
                   have hfz49_2 := blk_frozen BK335.out 2
                   go_wp2
                   go_meet
                   case rel => exact ⟨_, ((((wrap64 (t346 - t336)) != 0) != ((Int.tmod (wrap64 (t334 + 1)) t333) == 0))), (rs), H', ⟨by have := HJ9.out; have := HJ31.out; first | omega | exact Nat.le_refl _⟩, ⟨pk BK335⟩, ⟨bw⟩⟩
                 ·rw [if_neg c47] at H
                  have c47b0 : decide (1 < t330) = false := decide_eq_false c47
                  clear c47
                  have H' := Aside0.mk H
                  clear H
                  go_wp2
                  go_meet
                  case rel => exact ⟨_, ((((wrap64 (t346 - t336)) != 0) != false)), (rs), H', ⟨by have := HJ9.out; have := HJ31.out; first | omega | exact Nat.le_refl _⟩, ⟨pk BK335⟩, ⟨bw⟩⟩
              ·replace c44 := Bool.eq_false_iff.mpr c44
               subst c44
               rw [if_neg (show ¬ (false = true) by decide)] at H
               exact absurd (Option.some.inj H) (by rw [HRT.out]; decide)
             case rest =>
              clear HC41
              try clear c1
              try clear c2
              try clear p2
              try clear c3
              try clear c4
              try clear c5
              try clear c6
              try clear p6
              try clear c7
              try clear c8
              try clear c9
              try clear c21
              try clear c21b0
              try clear c21b1
              try clear c21b2
              try clear c22
              try clear c22b0
              try clear c22b1
              try clear c23
              try clear c23b0
              try clear c23b1
              try clear c23b2
              try clear c24
              try clear c24b0
              try clear c24b1
              try clear c25
              try clear c26
              try clear c28
              try clear c29
              try clear c29b0
              try clear c30
              try clear c30b0
              try clear c31
              try clear c31b0
              try clear c33
              try clear c33b0
              try clear c35
              try clear c36
              try clear c36b0
              try clear c36b1
              try clear c39
              try clear c39b0
              try clear c44
              try clear c45
              try clear c45b0
              try clear c46
              try clear c46b0
              try clear c47
              try clear c47b0
              try clear c48
              try clear c48b0
              try clear c48b1
              try clear hcz13_0
              try clear hcz13_1
              try clear hcz13_2
              try clear hcz15_0
              try clear hcz15_1
              try clear hcz15_2
              try clear hcz17_0
              try clear hcz17_1
              try clear hcz17_2
              try clear hcz19_0
              try clear hcz19_1
              try clear hcz19_2
              try clear hcz37_0
              try clear hcz37_1
              try clear hcz37_2
              try clear hcz42_0
              try clear hcz42_1
              try clear hcz42_2
              try clear hcz49_0
              try clear hcz49_1
              try clear hcz49_2
              try clear hfz13_0
              try clear hfz13_1
              try clear hfz13_2
              try clear hfz15_0
              try clear hfz15_1
              try clear hfz15_2
              try clear hfz17_0
              try clear hfz17_1
              try clear hfz17_2
              try clear hfz19_0
              try clear hfz19_1
              try clear hfz19_2
              try clear hfz37_0
              try clear hfz37_1
              try clear hfz37_2
              try clear hfz42_0
              try clear hfz42_1
              try clear hfz42_2
              try clear hfz49_0
              try clear hfz49_1
              try clear hfz49_2
              try clear p2
              try clear p6
              obtain ⟨kq, x188_40, rfl, HA, HJ40, BK335, HB⟩ := hcut
              cases kq with
              | zero => exact absurd HA.out (by simp [laws_FnSignalsGo.j2])
              | succ kj40 =>
               have H := HA.out
               clear HA
               simp only [laws_FnSignalsGo.j2] at H
               by_cases c50 : x188_40 = true
               ·subst c50
                rw [if_pos rfl] at H
                exact absurd (Option.some.inj H) (by rw [HRT.out]; decide)
               ·replace c50 := Bool.eq_false_iff.mpr c50
                subst c50
                rw [if_neg (show ¬ (false = true) by decide)] at H
                by_cases c51 : t334 = 0
                ·rw [if_pos c51] at H
                 have c51b0 : (t334 == 0) = true := beq_iff_eq.mpr c51
                 have c51b1 : (t334 != 0) = false := bne_eq_false_iff_eq.mpr c51
                 clear c51
                 by_cases c52 : t336 = t331
                 ·rw [if_pos c52] at H
                  have c52b0 : (t336 == t331) = true := beq_iff_eq.mpr c52
                  have c52b1 : (t336 != t331) = false := bne_eq_false_iff_eq.mpr c52
                  clear c52
                  have H' := Aside0.mk H
                  clear H
                  have hcz53_0 : wc.cell? ⟨gb335, 0, none⟩ = some (.int .i64 t331) := ec BK335
                  have hcz53_1 : wc.cell? ⟨gb335, 1, none⟩ = some (.bool t332) := ec BK335
                  have hcz53_2 : wc.cell? ⟨gb335, 2, none⟩ = some (.int .i64 t333) := ec BK335
                  have hfz53_0 := blk_frozen BK335.out 0
                  have hfz53_1 := blk_frozen BK335.out 1
                  have hfz53_2 := blk_frozen BK335.out 2
                  go_wp2
                  go_meet
                  case rel => exact ⟨_, H', ⟨by have := HJ9.out; have := HJ31.out; have := HJ40.out; first | omega | exact Nat.le_refl _⟩, ⟨pk BK335⟩, ⟨bw⟩⟩
                 ·rw [if_neg c52] at H
                  have c52b0 : (t336 == t331) = false := beq_eq_false_iff_ne.mpr c52
                  have c52b1 : (t336 != t331) = true := bne_iff_ne.mpr c52
                  exact absurd (Option.some.inj H) (by rw [HRT.out]; decide)
                ·rw [if_neg c51] at H
                 have c51b0 : (t334 == 0) = false := beq_eq_false_iff_ne.mpr c51
                 have c51b1 : (t334 != 0) = true := bne_iff_ne.mpr c51
                 have H' := Aside0.mk H
                 clear H
                 go_wp2
                 go_meet
                 case rel => exact ⟨_, H', ⟨by have := HJ9.out; have := HJ31.out; have := HJ40.out; first | omega | exact Nat.le_refl _⟩, ⟨pk BK335⟩, ⟨bw⟩⟩
            ·rw [if_neg c39] at H
             have c39b0 : decide (t334 < 100000) = false := decide_eq_false c39
             clear c39
             by_cases c54 : t334 = 0
             ·rw [if_pos c54] at H
              have c54b0 : (t334 == 0) = true := beq_iff_eq.mpr c54
              have c54b1 : (t334 != 0) = false := bne_eq_false_iff_eq.mpr c54
              clear c54
              by_cases c55 : t336 = t331
              ·rw [if_pos c55] at H
               have c55b0 : (t336 == t331) = true := beq_iff_eq.mpr c55
               have c55b1 : (t336 != t331) = false := bne_eq_false_iff_eq.mpr c55
               clear c55
               have H' := Aside0.mk H
               clear H
               have hcz56_0 : wc.cell? ⟨gb335, 0, none⟩ = some (.int .i64 t331) := ec BK335
               have hcz56_1 : wc.cell? ⟨gb335, 1, none⟩ = some (.bool t332) := ec BK335
               have hcz56_2 : wc.cell? ⟨gb335, 2, none⟩ = some (.int .i64 t333) := ec BK335
               have hfz56_0 := blk_frozen BK335.out 0
               have hfz56_1 := blk_frozen BK335.out 1
               have hfz56_2 := blk_frozen BK335.out 2
               go_wp2
               go_meet
               case rel => exact ⟨_, H', ⟨by have := HJ9.out; have := HJ31.out; first | omega | exact Nat.le_refl _⟩, ⟨pk BK335⟩, ⟨bw⟩⟩
              ·rw [if_neg c55] at H
               have c55b0 : (t336 == t331) = false := beq_eq_false_iff_ne.mpr c55
               have c55b1 : (t336 != t331) = true := bne_iff_ne.mpr c55
               exact absurd (Option.some.inj H) (by rw [HRT.out]; decide)
             ·rw [if_neg c54] at H
              have c54b0 : (t334 == 0) = false := beq_eq_false_iff_ne.mpr c54
              have c54b1 : (t334 != 0) = true := bne_iff_ne.mpr c54
              have H' := Aside0.mk H
              clear H
              go_wp2
              go_meet
              case rel => exact ⟨_, H', ⟨by have := HJ9.out; have := HJ31.out; first | omega | exact Nat.le_refl _⟩, ⟨pk BK335⟩, ⟨bw⟩⟩
      ·replace c28 := Bool.eq_false_iff.mpr c28
       subst c28
       rw [if_neg (show ¬ (false = true) by decide)] at H
       have H' := Aside0.mk H
       clear H
       go_wp2
       go_meet
       case rel => exact ⟨_, H', ⟨by have := HJ9.out; first | omega | exact Nat.le_refl _⟩, ⟨pk BK335⟩, ⟨bw⟩⟩
     case rest =>
      clear HC27
      try clear c1
      try clear c2
      try clear p2
      try clear c3
      try clear c4
      try clear c5
      try clear c6
      try clear p6
      try clear c7
      try clear c8
      try clear c9
      try clear c21
      try clear c21b0
      try clear c21b1
      try clear c21b2
      try clear c22
      try clear c22b0
      try clear c22b1
      try clear c23
      try clear c23b0
      try clear c23b1
      try clear c23b2
      try clear c24
      try clear c24b0
      try clear c24b1
      try clear c25
      try clear c26
      try clear c28
      try clear c29
      try clear c29b0
      try clear c30
      try clear c30b0
      try clear c31
      try clear c31b0
      try clear c33
      try clear c33b0
      try clear c35
      try clear c36
      try clear c36b0
      try clear c36b1
      try clear c39
      try clear c39b0
      try clear c44
      try clear c45
      try clear c45b0
      try clear c46
      try clear c46b0
      try clear c47
      try clear c47b0
      try clear c48
      try clear c48b0
      try clear c48b1
      try clear c50
      try clear c51
      try clear c51b0
      try clear c51b1
      try clear c52
      try clear c52b0
      try clear c52b1
      try clear c54
      try clear c54b0
      try clear c54b1
      try clear c55
      try clear c55b0
      try clear c55b1
      try clear hcz13_0
      try clear hcz13_1
      try clear hcz13_2
      try clear hcz15_0
      try clear hcz15_1
      try clear hcz15_2
      try clear hcz17_0
      try clear hcz17_1
      try clear hcz17_2
      try clear hcz19_0
      try clear hcz19_1
      try clear hcz19_2
      try clear hcz37_0
      try clear hcz37_1
      try clear hcz37_2
      try clear hcz42_0
      try clear hcz42_1
      try clear hcz42_2
      try clear hcz49_0
      try clear hcz49_1
      try clear hcz49_2
      try clear hcz53_0
      try clear hcz53_1
      try clear hcz53_2
      try clear hcz56_0
      try clear hcz56_1
      try clear hcz56_2
      try clear hfz13_0
      try clear hfz13_1
      try clear hfz13_2
      try clear hfz15_0
      try clear hfz15_1
      try clear hfz15_2
      try clear hfz17_0
      try clear hfz17_1
      try clear hfz17_2
      try clear hfz19_0
      try clear hfz19_1
      try clear hfz19_2
      try clear hfz37_0
      try clear hfz37_1
      try clear hfz37_2
      try clear hfz42_0
      try clear hfz42_1
      try clear hfz42_2
      try clear hfz49_0
      try clear hfz49_1
      try clear hfz49_2
      try clear hfz53_0
      try clear hfz53_1
      try clear hfz53_2
      try clear hfz56_0
      try clear hfz56_1
      try clear hfz56_2
      try clear p2
      try clear p6
      obtain ⟨kq, HA, HJ26, BK335, HB⟩ := hcut
      cases kq with
      | zero => exact absurd HA.out (by simp [laws_FnSignalsGo.j3])
      | succ kj26 =>
       have H := HA.out
       clear HA
       simp only [laws_FnSignalsGo.j3] at H
       replace H := Option.bind_eq_some_iff.mp H
       obtain ⟨⟨t348, t349, t350, t351, t352, t353⟩, A570, H⟩ := H
       (try dsimp only at H)
       have A57 := Aside0.mk A570
       clear A570
       replace H := Option.bind_eq_some_iff.mp H
       obtain ⟨⟨t355, t358⟩, A580, H⟩ := H
       (try dsimp only at H)
       have A58 := Aside0.mk A580
       clear A580
       replace H := Option.bind_eq_some_iff.mp H
       obtain ⟨⟨t359, t362⟩, A590, H⟩ := H
       (try dsimp only at H)
       have A59 := Aside0.mk A590
       clear A590
       replace H := Option.bind_eq_some_iff.mp H
       obtain ⟨⟨t363, t364, t365, t366, t367, t368, t369⟩, A600, H⟩ := H
       (try dsimp only at H)
       have A60 := Aside0.mk A600
       clear A600
       replace H := Option.bind_eq_some_iff.mp H
       obtain ⟨⟨t372, t373, t374⟩, A610, H⟩ := H
       (try dsimp only at H)
       have A61 := Aside0.mk A610
       clear A610
       replace H := Option.bind_eq_some_iff.mp H
       obtain ⟨⟨t375, t376, t377⟩, A620, H⟩ := H
       (try dsimp only at H)
       have A62 := Aside0.mk A620
       clear A620
       replace H := Option.bind_eq_some_iff.mp H
       obtain ⟨⟨t378, t379, t380, t381, t382, t383, t384, t385⟩, A630, H⟩ := H
       (try dsimp only at H)
       have A63 := Aside0.mk A630
       clear A630
       replace H := Option.bind_eq_some_iff.mp H
       obtain ⟨⟨t388, t389⟩, A640, H⟩ := H
       (try dsimp only at H)
       have A64 := Aside0.mk A640
       clear A640
       replace H := Option.bind_eq_some_iff.mp H
       obtain ⟨⟨t390, t391⟩, A650, H⟩ := H
       (try dsimp only at H)
       have A65 := Aside0.mk A650
       clear A650
       by_cases c66 : (t358 != t362) = true
       ·rw [if_pos c66] at H
        have c66b0 : (t358 != t362) = true := c66
        (try (have c66b1 : decide (t358 = t362) = false := by simpa using c66))
        (try (have c66b2 : (t358 == t362) = false := by simpa using c66))
        (try (have c66b3 : ¬ (t358 = t362) := by simpa using c66))
        clear c66
        exact absurd (Option.some.inj H) (by rw [HRT.out]; decide)
       ·rw [if_neg c66] at H
        have c66b0 : (t358 != t362) = false := by simpa using c66
        (try (have c66b1 : decide (t358 = t362) = true := by simpa using c66))
        (try (have c66b2 : (t358 == t362) = true := by simpa using c66))
        clear c66
        replace H := Option.bind_eq_some_iff.mp H
        obtain ⟨t392, A670, H⟩ := H
        (try dsimp only at H)
        have A67 := Aside0.mk A670
        clear A670
        by_cases c68 : t392 = true
        ·subst c68
         rw [if_pos rfl] at H
         by_cases c69 : (t374 != t377) = true
         ·rw [if_pos c69] at H
          have c69b0 : (t374 != t377) = true := c69
          (try (have c69b1 : decide (t374 = t377) = false := by simpa using c69))
          (try (have c69b2 : (t374 == t377) = false := by simpa using c69))
          (try (have c69b3 : ¬ (t374 = t377) := by simpa using c69))
          clear c69
          exact absurd (Option.some.inj H) (by rw [HRT.out]; decide)
         ·rw [if_neg c69] at H
          have c69b0 : (t374 != t377) = false := by simpa using c69
          (try (have c69b1 : decide (t374 = t377) = true := by simpa using c69))
          (try (have c69b2 : (t374 == t377) = true := by simpa using c69))
          clear c69
          by_cases c70 : t372 = t375
          ·rw [if_pos c70] at H
           have c70b0 : (t372 == t375) = true := beq_iff_eq.mpr c70
           have c70b1 : (t372 != t375) = false := bne_eq_false_iff_eq.mpr c70
           clear c70
           by_cases c71 : t373 = t376
           ·rw [if_pos c71] at H
            have c71b0 : (t373 == t376) = true := beq_iff_eq.mpr c71
            have c71b1 : (t373 != t376) = false := bne_eq_false_iff_eq.mpr c71
            clear c71
            by_cases c72 : (t389 != t391) = true
            ·rw [if_pos c72] at H
             have c72b0 : (t389 != t391) = true := c72
             (try (have c72b1 : decide (t389 = t391) = false := by simpa using c72))
             (try (have c72b2 : (t389 == t391) = false := by simpa using c72))
             (try (have c72b3 : ¬ (t389 = t391) := by simpa using c72))
             clear c72
             exact absurd (Option.some.inj H) (by rw [HRT.out]; decide)
            ·rw [if_neg c72] at H
             have c72b0 : (t389 != t391) = false := by simpa using c72
             (try (have c72b1 : decide (t389 = t391) = true := by simpa using c72))
             (try (have c72b2 : (t389 == t391) = true := by simpa using c72))
             clear c72
             by_cases c73 : t388 = t390
             ·rw [if_pos c73] at H
              have c73b0 : (t388 == t390) = true := beq_iff_eq.mpr c73
              have c73b1 : (t388 != t390) = false := bne_eq_false_iff_eq.mpr c73
              clear c73
              have HC74 := Aside0.mk H
              clear H
              go_upto_if 299 with (first | ((with_reducible refine gate_callee (f := 10) rfl ?_); refine gl (some 199) Try.func10 #[.slice A1 l1.length c1] ?_; (with_reducible refine (spec_DrawTimesAt.calls _ _ l1 t348 t349 t350 t351 t352 t353 _ ?side1 ?side2 A57.out).mono ?_); (case side1 => repeat (first | exact (Kd.C_below HR1.out HB.out) | (with_reducible refine Kd.C_alloc ?_ _) | (with_reducible refine Kd.C_drewN ?_ _) | (with_reducible refine Kd.C_drew ?_))); (case side2 => exact HC1.out); rintro e w75 ⟨rfl, hb⟩; refine ⟨_, rfl, ?_⟩; replace BK335 := nk BK335 hb; replace HB := bs hb; (try clear hb)) | ((with_reducible refine gate_dst (N := 22) rfl ?_); refine bx 22 25 #[.int .i64 0, .bool false, .int .i64 0] ?_; intro gb354 hg w76 hbox hb; have BK354 := hbox; have GW354 := gs hg; have GE354 := gs hg; replace HB := bs hb; have NB335_354 := nl BK335 hg; have NB354_335 := ng BK335 hg; replace BK335 := nk BK335 hb; clear hb hbox hg; have hnb77 := NB354_335.out; have hnc77 := NB335_354.out; have hcz78_0 := bc BK354 0 (.int .i64 0); have hcz78_1 := bc BK354 1 (.bool false); have hcz78_2 := bc BK354 2 (.int .i64 0); have hfz78_0 := blk_frozen BK354.out 0; have hfz78_1 := blk_frozen BK354.out 1; have hfz78_2 := blk_frozen BK354.out 2) | ((with_reducible refine gate_callee (f := 11) rfl ?_); refine gl (some 209) Try.func11 #[.int .i64 t348, .agg #[.int .i64 t349, .bool t350, .int .i64 t351], .int .i64 t352, .int .i64 t353] ?_; (with_reducible refine (impl_TimesAt.calls kj26 t348 t349 t350 t351 t352 t353 t355 t358 _ A58.out).mono ?_); rintro e w79 ⟨v356, rfl, ho0, hb⟩; refine ⟨_, rfl, ?_⟩; have HO357 := Aside0.mk (Kd.R_lower ho0 (below_size bw)); replace BK335 := Aside0.mk (blk_below (g := gb335) (o := .cells #[.int .i64 t331, .bool t332, .int .i64 t333] 25 (0, 0)) (by (with_reducible repeat (first | refine blk_drewN ?_ _ | refine blk_drew ?_ | refine blk_alloc ?_ _)); refine blk_far ?_ NB335_354.out _; (with_reducible repeat (first | refine blk_drewN ?_ _ | refine blk_drew ?_ | refine blk_alloc ?_ _)); refine blk_far ?_ NB335_354.out _; (with_reducible repeat (first | refine blk_drewN ?_ _ | refine blk_drew ?_ | refine blk_alloc ?_ _)); refine blk_far ?_ NB335_354.out _; (with_reducible repeat (first | refine blk_drewN ?_ _ | refine blk_drew ?_ | refine blk_alloc ?_ _)); exact BK335.out) hb); replace BK354 := Aside0.mk (blk_below (g := gb354) (o := .cells #[.int .i64 t349, .bool t350, .int .i64 t351] 25 (0, 0)) (by (with_reducible repeat (first | refine blk_drewN ?_ _ | refine blk_drew ?_ | refine blk_alloc ?_ _)); refine blk_put (cs := #[.int .i64 t349, .bool t350, .int .i64 0]) ?_ 2 _ rfl; (with_reducible repeat (first | refine blk_drewN ?_ _ | refine blk_drew ?_ | refine blk_alloc ?_ _)); refine blk_put (cs := #[.int .i64 t349, .bool false, .int .i64 0]) ?_ 1 _ rfl; (with_reducible repeat (first | refine blk_drewN ?_ _ | refine blk_drew ?_ | refine blk_alloc ?_ _)); refine blk_put (cs := #[.int .i64 0, .bool false, .int .i64 0]) ?_ 0 _ rfl; (with_reducible repeat (first | refine blk_drewN ?_ _ | refine blk_drew ?_ | refine blk_alloc ?_ _)); exact BK354.out) hb); replace HB := bs hb; (try clear hb); (try clear ho0); have hcz80_0 := bc BK354 0 (.int .i64 t349); have hcz80_1 := bc BK354 1 (.bool t350); have hcz80_2 := bc BK354 2 (.int .i64 t351); have hfz80_0 := blk_frozen BK354.out 0; have hfz80_1 := blk_frozen BK354.out 1; have hfz80_2 := blk_frozen BK354.out 2) | ((with_reducible refine gate_callee (f := 12) rfl ?_); refine gl (some 217) Try.func12 #[.int .i64 t348, .agg #[.int .i64 t349, .bool t350, .int .i64 t351], .int .i64 t352, .int .i64 t353] ?_; (with_reducible refine (spec_TimesAt.calls kj26 t348 t349 t350 t351 t352 t353 t359 t362 _ A59.out).mono ?_); rintro e w81 ⟨v360, rfl, ho0, hb⟩; refine ⟨_, rfl, ?_⟩; have HO361 := Aside0.mk (Kd.R_lower (Kd.R_new' ho0 (Kd.R_lt (pr HO357))) (below_size bw)); replace HO357 := Aside0.mk (Kd.R_elder' (pr HO357) (Kd.R_base ho0) hb); replace BK335 := nk BK335 hb; replace BK354 := nk BK354 hb; replace HB := bs hb; (try clear hb); (try clear ho0)) | ((with_reducible refine gate_callee (f := 13) rfl ?_); refine gl (some 222) Try.func13 #[.slice A1 l1.length c1] ?_; (with_reducible refine (spec_DrawFirstMeeting.calls _ _ l1 t363 t364 t365 t366 t367 t368 t369 _ ?side1 ?side2 A60.out).mono ?_); (case side1 => repeat (first | exact (Kd.C_below HR1.out HB.out) | (with_reducible refine Kd.C_alloc ?_ _) | (with_reducible refine Kd.C_drewN ?_ _) | (with_reducible refine Kd.C_drew ?_))); (case side2 => exact HC1.out); rintro e w82 ⟨rfl, hb⟩; refine ⟨_, rfl, ?_⟩; replace HO357 := Aside0.mk (Kd.R_below (pr HO357) hb); replace HO361 := Aside0.mk (Kd.R_below (pr HO361) hb); replace BK335 := nk BK335 hb; replace BK354 := nk BK354 hb; replace HB := bs hb; (try clear hb)) | ((with_reducible refine gate_dst (N := 30) rfl ?_); refine bx 30 25 #[.int .i64 0, .bool false, .int .i64 0] ?_; intro gb370 hg w83 hbox hb; replace HO357 := Aside0.mk (Kd.R_below (pr HO357) hb); replace HO361 := Aside0.mk (Kd.R_below (pr HO361) hb); have BK370 := hbox; have GW370 := gs hg; have GE370 := gs hg; replace HB := bs hb; have NB335_370 := nl BK335 hg; have NB370_335 := ng BK335 hg; replace BK335 := nk BK335 hb; have NB354_370 := nl BK354 hg; have NB370_354 := ng BK354 hg; replace BK354 := nk BK354 hb; clear hb hbox hg) | ((with_reducible refine gate_dst (N := 31) rfl ?_); refine bx 31 25 #[.int .i64 0, .bool false, .int .i64 0] ?_; intro gb371 hg w84 hbox hb; replace HO357 := Aside0.mk (Kd.R_below (pr HO357) hb); replace HO361 := Aside0.mk (Kd.R_below (pr HO361) hb); have BK371 := hbox; have GW371 := gs hg; have GE371 := gs hg; replace HB := bs hb; have NB335_371 := nl BK335 hg; have NB371_335 := ng BK335 hg; replace BK335 := nk BK335 hb; have NB354_371 := nl BK354 hg; have NB371_354 := ng BK354 hg; replace BK354 := nk BK354 hb; have NB370_371 := nl BK370 hg; have NB371_370 := ng BK370 hg; replace BK370 := nk BK370 hb; clear hb hbox hg; have hnb85 := NB370_335.out; have hnc85 := NB335_370.out; have hnb86 := NB370_354.out; have hnc86 := NB354_370.out; have hnb87 := NB370_371.out; have hnc87 := NB371_370.out; have hcz88_0 := bc BK370 0 (.int .i64 0); have hcz88_1 := bc BK370 1 (.bool false); have hcz88_2 := bc BK370 2 (.int .i64 0); have hfz88_0 := blk_frozen BK370.out 0; have hfz88_1 := blk_frozen BK370.out 1; have hfz88_2 := blk_frozen BK370.out 2; have hnb89 := NB371_335.out; have hnc89 := NB335_371.out; have hnb90 := NB371_354.out; have hnc90 := NB354_371.out; have hcz91_0 := bc BK371 0 (.int .i64 0); have hcz91_1 := bc BK371 1 (.bool false); have hcz91_2 := bc BK371 2 (.int .i64 0); have hfz91_0 := blk_frozen BK371.out 0; have hfz91_1 := blk_frozen BK371.out 1; have hfz91_2 := blk_frozen BK371.out 2) | ((with_reducible refine gate_callee (f := 14) rfl ?_); refine gl (some 230) Try.func14 #[.int .i64 t363, .agg #[.int .i64 t364, .bool t365, .int .i64 t366], .agg #[.int .i64 t367, .bool t368, .int .i64 t369]] ?_; (with_reducible refine (impl_FirstMeeting.calls kj26 t363 t364 t365 t366 t367 t368 t369 t372 t373 t374 _ A61.out).mono ?_); rintro e w92 ⟨rfl, hb⟩; refine ⟨_, rfl, ?_⟩; replace HO357 := Aside0.mk (Kd.R_below (by (with_reducible repeat (first | apply Kd.R_alloc | apply Kd.R_drewN | apply Kd.R_drew)); exact (Kd.R_mono (Kd.R_mono (Kd.R_far (p := ⟨gb371, 2, none⟩) (Kd.R_far (p := ⟨gb371, 1, none⟩) (Kd.R_far (p := ⟨gb371, 0, none⟩) (Kd.R_far (p := ⟨gb370, 2, none⟩) (Kd.R_far (p := ⟨gb370, 1, none⟩) (Kd.R_far (p := ⟨gb370, 0, none⟩) (Kd.R_types (Kd.R_types HO357.out BK370.out (by decide)) BK371.out (by decide)) (fun _ hk => hk.1.2) (.int .i64 t364)) (fun _ hk => hk.1.2) (.bool t365)) (fun _ hk => hk.1.2) (.int .i64 t366)) (fun _ hk => hk.2) (.int .i64 t367)) (fun _ hk => hk.2) (.bool t368)) (fun _ hk => hk.2) (.int .i64 t369)) (fun _ h_ => h_.1)) (fun _ h_ => h_.1))) hb); replace HO361 := Aside0.mk (Kd.R_below (by (with_reducible repeat (first | apply Kd.R_alloc | apply Kd.R_drewN | apply Kd.R_drew)); exact (Kd.R_mono (Kd.R_mono (Kd.R_far (p := ⟨gb371, 2, none⟩) (Kd.R_far (p := ⟨gb371, 1, none⟩) (Kd.R_far (p := ⟨gb371, 0, none⟩) (Kd.R_far (p := ⟨gb370, 2, none⟩) (Kd.R_far (p := ⟨gb370, 1, none⟩) (Kd.R_far (p := ⟨gb370, 0, none⟩) (Kd.R_types (Kd.R_types HO361.out BK370.out (by decide)) BK371.out (by decide)) (fun _ hk => hk.1.2) (.int .i64 t364)) (fun _ hk => hk.1.2) (.bool t365)) (fun _ hk => hk.1.2) (.int .i64 t366)) (fun _ hk => hk.2) (.int .i64 t367)) (fun _ hk => hk.2) (.bool t368)) (fun _ hk => hk.2) (.int .i64 t369)) (fun _ h_ => h_.1)) (fun _ h_ => h_.1))) hb); replace BK335 := Aside0.mk (blk_below (g := gb335) (o := .cells #[.int .i64 t331, .bool t332, .int .i64 t333] 25 (0, 0)) (by (with_reducible repeat (first | refine blk_drewN ?_ _ | refine blk_drew ?_ | refine blk_alloc ?_ _)); refine blk_far ?_ NB335_371.out _; (with_reducible repeat (first | refine blk_drewN ?_ _ | refine blk_drew ?_ | refine blk_alloc ?_ _)); refine blk_far ?_ NB335_371.out _; (with_reducible repeat (first | refine blk_drewN ?_ _ | refine blk_drew ?_ | refine blk_alloc ?_ _)); refine blk_far ?_ NB335_371.out _; (with_reducible repeat (first | refine blk_drewN ?_ _ | refine blk_drew ?_ | refine blk_alloc ?_ _)); refine blk_far ?_ NB335_370.out _; (with_reducible repeat (first | refine blk_drewN ?_ _ | refine blk_drew ?_ | refine blk_alloc ?_ _)); refine blk_far ?_ NB335_370.out _; (with_reducible repeat (first | refine blk_drewN ?_ _ | refine blk_drew ?_ | refine blk_alloc ?_ _)); refine blk_far ?_ NB335_370.out _; (with_reducible repeat (first | refine blk_drewN ?_ _ | refine blk_drew ?_ | refine blk_alloc ?_ _)); exact BK335.out) hb); replace BK354 := Aside0.mk (blk_below (g := gb354) (o := .cells #[.int .i64 t349, .bool t350, .int .i64 t351] 25 (0, 0)) (by (with_reducible repeat (first | refine blk_drewN ?_ _ | refine blk_drew ?_ | refine blk_alloc ?_ _)); refine blk_far ?_ NB354_371.out _; (with_reducible repeat (first | refine blk_drewN ?_ _ | refine blk_drew ?_ | refine blk_alloc ?_ _)); refine blk_far ?_ NB354_371.out _; (with_reducible repeat (first | refine blk_drewN ?_ _ | refine blk_drew ?_ | refine blk_alloc ?_ _)); refine blk_far ?_ NB354_371.out _; (with_reducible repeat (first | refine blk_drewN ?_ _ | refine blk_drew ?_ | refine blk_alloc ?_ _)); refine blk_far ?_ NB354_370.out _; (with_reducible repeat (first | refine blk_drewN ?_ _ | refine blk_drew ?_ | refine blk_alloc ?_ _)); refine blk_far ?_ NB354_370.out _; (with_reducible repeat (first | refine blk_drewN ?_ _ | refine blk_drew ?_ | refine blk_alloc ?_ _)); refine blk_far ?_ NB354_370.out _; (with_reducible repeat (first | refine blk_drewN ?_ _ | refine blk_drew ?_ | refine blk_alloc ?_ _)); exact BK354.out) hb); replace BK370 := Aside0.mk (blk_below (g := gb370) (o := .cells #[.int .i64 t364, .bool t365, .int .i64 t366] 25 (0, 0)) (by (with_reducible repeat (first | refine blk_drewN ?_ _ | refine blk_drew ?_ | refine blk_alloc ?_ _)); refine blk_far ?_ NB370_371.out _; (with_reducible repeat (first | refine blk_drewN ?_ _ | refine blk_drew ?_ | refine blk_alloc ?_ _)); refine blk_far ?_ NB370_371.out _; (with_reducible repeat (first | refine blk_drewN ?_ _ | refine blk_drew ?_ | refine blk_alloc ?_ _)); refine blk_far ?_ NB370_371.out _; (with_reducible repeat (first | refine blk_drewN ?_ _ | refine blk_drew ?_ | refine blk_alloc ?_ _)); refine blk_put (cs := #[.int .i64 t364, .bool t365, .int .i64 0]) ?_ 2 _ rfl; (with_reducible repeat (first | refine blk_drewN ?_ _ | refine blk_drew ?_ | refine blk_alloc ?_ _)); refine blk_put (cs := #[.int .i64 t364, .bool false, .int .i64 0]) ?_ 1 _ rfl; (with_reducible repeat (first | refine blk_drewN ?_ _ | refine blk_drew ?_ | refine blk_alloc ?_ _)); refine blk_put (cs := #[.int .i64 0, .bool false, .int .i64 0]) ?_ 0 _ rfl; (with_reducible repeat (first | refine blk_drewN ?_ _ | refine blk_drew ?_ | refine blk_alloc ?_ _)); exact BK370.out) hb); replace BK371 := Aside0.mk (blk_below (g := gb371) (o := .cells #[.int .i64 t367, .bool t368, .int .i64 t369] 25 (0, 0)) (by (with_reducible repeat (first | refine blk_drewN ?_ _ | refine blk_drew ?_ | refine blk_alloc ?_ _)); refine blk_put (cs := #[.int .i64 t367, .bool t368, .int .i64 0]) ?_ 2 _ rfl; (with_reducible repeat (first | refine blk_drewN ?_ _ | refine blk_drew ?_ | refine blk_alloc ?_ _)); refine blk_put (cs := #[.int .i64 t367, .bool false, .int .i64 0]) ?_ 1 _ rfl; (with_reducible repeat (first | refine blk_drewN ?_ _ | refine blk_drew ?_ | refine blk_alloc ?_ _)); refine blk_put (cs := #[.int .i64 0, .bool false, .int .i64 0]) ?_ 0 _ rfl; (with_reducible repeat (first | refine blk_drewN ?_ _ | refine blk_drew ?_ | refine blk_alloc ?_ _)); refine blk_far ?_ NB371_370.out _; (with_reducible repeat (first | refine blk_drewN ?_ _ | refine blk_drew ?_ | refine blk_alloc ?_ _)); refine blk_far ?_ NB371_370.out _; (with_reducible repeat (first | refine blk_drewN ?_ _ | refine blk_drew ?_ | refine blk_alloc ?_ _)); refine blk_far ?_ NB371_370.out _; (with_reducible repeat (first | refine blk_drewN ?_ _ | refine blk_drew ?_ | refine blk_alloc ?_ _)); exact BK371.out) hb); replace HB := bs hb; (try clear hb); have hcz93_0 := bc BK370 0 (.int .i64 t364); have hcz93_1 := bc BK370 1 (.bool t365); have hcz93_2 := bc BK370 2 (.int .i64 t366); have hfz93_0 := blk_frozen BK370.out 0; have hfz93_1 := blk_frozen BK370.out 1; have hfz93_2 := blk_frozen BK370.out 2; have hcz94_0 := bc BK371 0 (.int .i64 t367); have hcz94_1 := bc BK371 1 (.bool t368); have hcz94_2 := bc BK371 2 (.int .i64 t369); have hfz94_0 := blk_frozen BK371.out 0; have hfz94_1 := blk_frozen BK371.out 1; have hfz94_2 := blk_frozen BK371.out 2) | ((with_reducible refine gate_callee (f := 15) rfl ?_); refine gl (some 238) Try.func15 #[.int .i64 t363, .agg #[.int .i64 t364, .bool t365, .int .i64 t366], .agg #[.int .i64 t367, .bool t368, .int .i64 t369]] ?_; (with_reducible refine (spec_FirstMeeting.calls kj26 t363 t364 t365 t366 t367 t368 t369 t375 t376 t377 _ A62.out).mono ?_); rintro e w95 ⟨rfl, hb⟩; refine ⟨_, rfl, ?_⟩; replace HO357 := Aside0.mk (Kd.R_below (pr HO357) hb); replace HO361 := Aside0.mk (Kd.R_below (pr HO361) hb); replace BK335 := nk BK335 hb; replace BK354 := nk BK354 hb; replace BK370 := nk BK370 hb; replace BK371 := nk BK371 hb; replace HB := bs hb; (try clear hb)) | ((with_reducible refine gate_callee (f := 16) rfl ?_); refine gl (some 244) Try.func16 #[.slice A1 l1.length c1] ?_; (with_reducible refine (spec_DrawCountMeetings.calls _ _ l1 t378 t379 t380 t381 t382 t383 t384 t385 _ ?side1 ?side2 A63.out).mono ?_); (case side1 => repeat (first | exact (Kd.C_below HR1.out HB.out) | (with_reducible refine Kd.C_alloc ?_ _) | (with_reducible refine Kd.C_drewN ?_ _) | (with_reducible refine Kd.C_drew ?_))); (case side2 => exact HC1.out); rintro e w96 ⟨rfl, hb⟩; refine ⟨_, rfl, ?_⟩; replace HO357 := Aside0.mk (Kd.R_below (pr HO357) hb); replace HO361 := Aside0.mk (Kd.R_below (pr HO361) hb); replace BK335 := nk BK335 hb; replace BK354 := nk BK354 hb; replace BK370 := nk BK370 hb; replace BK371 := nk BK371 hb; replace HB := bs hb; (try clear hb)) | ((with_reducible refine gate_dst (N := 39) rfl ?_); refine bx 39 25 #[.int .i64 0, .bool false, .int .i64 0] ?_; intro gb386 hg w97 hbox hb; replace HO357 := Aside0.mk (Kd.R_below (pr HO357) hb); replace HO361 := Aside0.mk (Kd.R_below (pr HO361) hb); have BK386 := hbox; have GW386 := gs hg; have GE386 := gs hg; replace HB := bs hb; have NB335_386 := nl BK335 hg; have NB386_335 := ng BK335 hg; replace BK335 := nk BK335 hb; have NB354_386 := nl BK354 hg; have NB386_354 := ng BK354 hg; replace BK354 := nk BK354 hb; have NB370_386 := nl BK370 hg; have NB386_370 := ng BK370 hg; replace BK370 := nk BK370 hb; have NB371_386 := nl BK371 hg; have NB386_371 := ng BK371 hg; replace BK371 := nk BK371 hb; clear hb hbox hg) | ((with_reducible refine gate_dst (N := 40) rfl ?_); refine bx 40 25 #[.int .i64 0, .bool false, .int .i64 0] ?_; intro gb387 hg w98 hbox hb; replace HO357 := Aside0.mk (Kd.R_below (pr HO357) hb); replace HO361 := Aside0.mk (Kd.R_below (pr HO361) hb); have BK387 := hbox; have GW387 := gs hg; have GE387 := gs hg; replace HB := bs hb; have NB335_387 := nl BK335 hg; have NB387_335 := ng BK335 hg; replace BK335 := nk BK335 hb; have NB354_387 := nl BK354 hg; have NB387_354 := ng BK354 hg; replace BK354 := nk BK354 hb; have NB370_387 := nl BK370 hg; have NB387_370 := ng BK370 hg; replace BK370 := nk BK370 hb; have NB371_387 := nl BK371 hg; have NB387_371 := ng BK371 hg; replace BK371 := nk BK371 hb; have NB386_387 := nl BK386 hg; have NB387_386 := ng BK386 hg; replace BK386 := nk BK386 hb; clear hb hbox hg; have hnb99 := NB386_335.out; have hnc99 := NB335_386.out; have hnb100 := NB386_354.out; have hnc100 := NB354_386.out; have hnb101 := NB386_370.out; have hnc101 := NB370_386.out; have hnb102 := NB386_371.out; have hnc102 := NB371_386.out; have hnb103 := NB386_387.out; have hnc103 := NB387_386.out; have hcz104_0 := bc BK386 0 (.int .i64 0); have hcz104_1 := bc BK386 1 (.bool false); have hcz104_2 := bc BK386 2 (.int .i64 0); have hfz104_0 := blk_frozen BK386.out 0; have hfz104_1 := blk_frozen BK386.out 1; have hfz104_2 := blk_frozen BK386.out 2; have hnb105 := NB387_335.out; have hnc105 := NB335_387.out; have hnb106 := NB387_354.out; have hnc106 := NB354_387.out; have hnb107 := NB387_370.out; have hnc107 := NB370_387.out; have hnb108 := NB387_371.out; have hnc108 := NB371_387.out; have hcz109_0 := bc BK387 0 (.int .i64 0); have hcz109_1 := bc BK387 1 (.bool false); have hcz109_2 := bc BK387 2 (.int .i64 0); have hfz109_0 := blk_frozen BK387.out 0; have hfz109_1 := blk_frozen BK387.out 1; have hfz109_2 := blk_frozen BK387.out 2) | ((with_reducible refine gate_callee (f := 17) rfl ?_); refine gl (some 254) Try.func17 #[.int .i64 t378, .agg #[.int .i64 t379, .bool t380, .int .i64 t381], .agg #[.int .i64 t382, .bool t383, .int .i64 t384], .int .i64 t385] ?_; (with_reducible refine (impl_CountMeetings.calls kj26 t378 t379 t380 t381 t382 t383 t384 t385 t388 t389 _ A64.out).mono ?_); rintro e w110 ⟨rfl, hb⟩; refine ⟨_, rfl, ?_⟩; replace HO357 := Aside0.mk (Kd.R_below (by (with_reducible repeat (first | apply Kd.R_alloc | apply Kd.R_drewN | apply Kd.R_drew)); exact (Kd.R_mono (Kd.R_mono (Kd.R_far (p := ⟨gb387, 2, none⟩) (Kd.R_far (p := ⟨gb387, 1, none⟩) (Kd.R_far (p := ⟨gb387, 0, none⟩) (Kd.R_far (p := ⟨gb386, 2, none⟩) (Kd.R_far (p := ⟨gb386, 1, none⟩) (Kd.R_far (p := ⟨gb386, 0, none⟩) (Kd.R_types (Kd.R_types HO357.out BK386.out (by decide)) BK387.out (by decide)) (fun _ hk => hk.1.2) (.int .i64 t379)) (fun _ hk => hk.1.2) (.bool t380)) (fun _ hk => hk.1.2) (.int .i64 t381)) (fun _ hk => hk.2) (.int .i64 t382)) (fun _ hk => hk.2) (.bool t383)) (fun _ hk => hk.2) (.int .i64 t384)) (fun _ h_ => h_.1)) (fun _ h_ => h_.1))) hb); replace HO361 := Aside0.mk (Kd.R_below (by (with_reducible repeat (first | apply Kd.R_alloc | apply Kd.R_drewN | apply Kd.R_drew)); exact (Kd.R_mono (Kd.R_mono (Kd.R_far (p := ⟨gb387, 2, none⟩) (Kd.R_far (p := ⟨gb387, 1, none⟩) (Kd.R_far (p := ⟨gb387, 0, none⟩) (Kd.R_far (p := ⟨gb386, 2, none⟩) (Kd.R_far (p := ⟨gb386, 1, none⟩) (Kd.R_far (p := ⟨gb386, 0, none⟩) (Kd.R_types (Kd.R_types HO361.out BK386.out (by decide)) BK387.out (by decide)) (fun _ hk => hk.1.2) (.int .i64 t379)) (fun _ hk => hk.1.2) (.bool t380)) (fun _ hk => hk.1.2) (.int .i64 t381)) (fun _ hk => hk.2) (.int .i64 t382)) (fun _ hk => hk.2) (.bool t383)) (fun _ hk => hk.2) (.int .i64 t384)) (fun _ h_ => h_.1)) (fun _ h_ => h_.1))) hb); replace BK335 := Aside0.mk (blk_below (g := gb335) (o := .cells #[.int .i64 t331, .bool t332, .int .i64 t333] 25 (0, 0)) (by (with_reducible repeat (first | refine blk_drewN ?_ _ | refine blk_drew ?_ | refine blk_alloc ?_ _)); refine blk_far ?_ NB335_387.out _; (with_reducible repeat (first | refine blk_drewN ?_ _ | refine blk_drew ?_ | refine blk_alloc ?_ _)); refine blk_far ?_ NB335_387.out _; (with_reducible repeat (first | refine blk_drewN ?_ _ | refine blk_drew ?_ | refine blk_alloc ?_ _)); refine blk_far ?_ NB335_387.out _; (with_reducible repeat (first | refine blk_drewN ?_ _ | refine blk_drew ?_ | refine blk_alloc ?_ _)); refine blk_far ?_ NB335_386.out _; (with_reducible repeat (first | refine blk_drewN ?_ _ | refine blk_drew ?_ | refine blk_alloc ?_ _)); refine blk_far ?_ NB335_386.out _; (with_reducible repeat (first | refine blk_drewN ?_ _ | refine blk_drew ?_ | refine blk_alloc ?_ _)); refine blk_far ?_ NB335_386.out _; (with_reducible repeat (first | refine blk_drewN ?_ _ | refine blk_drew ?_ | refine blk_alloc ?_ _)); exact BK335.out) hb); replace BK354 := Aside0.mk (blk_below (g := gb354) (o := .cells #[.int .i64 t349, .bool t350, .int .i64 t351] 25 (0, 0)) (by (with_reducible repeat (first | refine blk_drewN ?_ _ | refine blk_drew ?_ | refine blk_alloc ?_ _)); refine blk_far ?_ NB354_387.out _; (with_reducible repeat (first | refine blk_drewN ?_ _ | refine blk_drew ?_ | refine blk_alloc ?_ _)); refine blk_far ?_ NB354_387.out _; (with_reducible repeat (first | refine blk_drewN ?_ _ | refine blk_drew ?_ | refine blk_alloc ?_ _)); refine blk_far ?_ NB354_387.out _; (with_reducible repeat (first | refine blk_drewN ?_ _ | refine blk_drew ?_ | refine blk_alloc ?_ _)); refine blk_far ?_ NB354_386.out _; (with_reducible repeat (first | refine blk_drewN ?_ _ | refine blk_drew ?_ | refine blk_alloc ?_ _)); refine blk_far ?_ NB354_386.out _; (with_reducible repeat (first | refine blk_drewN ?_ _ | refine blk_drew ?_ | refine blk_alloc ?_ _)); refine blk_far ?_ NB354_386.out _; (with_reducible repeat (first | refine blk_drewN ?_ _ | refine blk_drew ?_ | refine blk_alloc ?_ _)); exact BK354.out) hb); replace BK370 := Aside0.mk (blk_below (g := gb370) (o := .cells #[.int .i64 t364, .bool t365, .int .i64 t366] 25 (0, 0)) (by (with_reducible repeat (first | refine blk_drewN ?_ _ | refine blk_drew ?_ | refine blk_alloc ?_ _)); refine blk_far ?_ NB370_387.out _; (with_reducible repeat (first | refine blk_drewN ?_ _ | refine blk_drew ?_ | refine blk_alloc ?_ _)); refine blk_far ?_ NB370_387.out _; (with_reducible repeat (first | refine blk_drewN ?_ _ | refine blk_drew ?_ | refine blk_alloc ?_ _)); refine blk_far ?_ NB370_387.out _; (with_reducible repeat (first | refine blk_drewN ?_ _ | refine blk_drew ?_ | refine blk_alloc ?_ _)); refine blk_far ?_ NB370_386.out _; (with_reducible repeat (first | refine blk_drewN ?_ _ | refine blk_drew ?_ | refine blk_alloc ?_ _)); refine blk_far ?_ NB370_386.out _; (with_reducible repeat (first | refine blk_drewN ?_ _ | refine blk_drew ?_ | refine blk_alloc ?_ _)); refine blk_far ?_ NB370_386.out _; (with_reducible repeat (first | refine blk_drewN ?_ _ | refine blk_drew ?_ | refine blk_alloc ?_ _)); exact BK370.out) hb); replace BK371 := Aside0.mk (blk_below (g := gb371) (o := .cells #[.int .i64 t367, .bool t368, .int .i64 t369] 25 (0, 0)) (by (with_reducible repeat (first | refine blk_drewN ?_ _ | refine blk_drew ?_ | refine blk_alloc ?_ _)); refine blk_far ?_ NB371_387.out _; (with_reducible repeat (first | refine blk_drewN ?_ _ | refine blk_drew ?_ | refine blk_alloc ?_ _)); refine blk_far ?_ NB371_387.out _; (with_reducible repeat (first | refine blk_drewN ?_ _ | refine blk_drew ?_ | refine blk_alloc ?_ _)); refine blk_far ?_ NB371_387.out _; (with_reducible repeat (first | refine blk_drewN ?_ _ | refine blk_drew ?_ | refine blk_alloc ?_ _)); refine blk_far ?_ NB371_386.out _; (with_reducible repeat (first | refine blk_drewN ?_ _ | refine blk_drew ?_ | refine blk_alloc ?_ _)); refine blk_far ?_ NB371_386.out _; (with_reducible repeat (first | refine blk_drewN ?_ _ | refine blk_drew ?_ | refine blk_alloc ?_ _)); refine blk_far ?_ NB371_386.out _; (with_reducible repeat (first | refine blk_drewN ?_ _ | refine blk_drew ?_ | refine blk_alloc ?_ _)); exact BK371.out) hb); replace BK386 := Aside0.mk (blk_below (g := gb386) (o := .cells #[.int .i64 t379, .bool t380, .int .i64 t381] 25 (0, 0)) (by (with_reducible repeat (first | refine blk_drewN ?_ _ | refine blk_drew ?_ | refine blk_alloc ?_ _)); refine blk_far ?_ NB386_387.out _; (with_reducible repeat (first | refine blk_drewN ?_ _ | refine blk_drew ?_ | refine blk_alloc ?_ _)); refine blk_far ?_ NB386_387.out _; (with_reducible repeat (first | refine blk_drewN ?_ _ | refine blk_drew ?_ | refine blk_alloc ?_ _)); refine blk_far ?_ NB386_387.out _; (with_reducible repeat (first | refine blk_drewN ?_ _ | refine blk_drew ?_ | refine blk_alloc ?_ _)); refine blk_put (cs := #[.int .i64 t379, .bool t380, .int .i64 0]) ?_ 2 _ rfl; (with_reducible repeat (first | refine blk_drewN ?_ _ | refine blk_drew ?_ | refine blk_alloc ?_ _)); refine blk_put (cs := #[.int .i64 t379, .bool false, .int .i64 0]) ?_ 1 _ rfl; (with_reducible repeat (first | refine blk_drewN ?_ _ | refine blk_drew ?_ | refine blk_alloc ?_ _)); refine blk_put (cs := #[.int .i64 0, .bool false, .int .i64 0]) ?_ 0 _ rfl; (with_reducible repeat (first | refine blk_drewN ?_ _ | refine blk_drew ?_ | refine blk_alloc ?_ _)); exact BK386.out) hb); replace BK387 := Aside0.mk (blk_below (g := gb387) (o := .cells #[.int .i64 t382, .bool t383, .int .i64 t384] 25 (0, 0)) (by (with_reducible repeat (first | refine blk_drewN ?_ _ | refine blk_drew ?_ | refine blk_alloc ?_ _)); refine blk_put (cs := #[.int .i64 t382, .bool t383, .int .i64 0]) ?_ 2 _ rfl; (with_reducible repeat (first | refine blk_drewN ?_ _ | refine blk_drew ?_ | refine blk_alloc ?_ _)); refine blk_put (cs := #[.int .i64 t382, .bool false, .int .i64 0]) ?_ 1 _ rfl; (with_reducible repeat (first | refine blk_drewN ?_ _ | refine blk_drew ?_ | refine blk_alloc ?_ _)); refine blk_put (cs := #[.int .i64 0, .bool false, .int .i64 0]) ?_ 0 _ rfl; (with_reducible repeat (first | refine blk_drewN ?_ _ | refine blk_drew ?_ | refine blk_alloc ?_ _)); refine blk_far ?_ NB387_386.out _; (with_reducible repeat (first | refine blk_drewN ?_ _ | refine blk_drew ?_ | refine blk_alloc ?_ _)); refine blk_far ?_ NB387_386.out _; (with_reducible repeat (first | refine blk_drewN ?_ _ | refine blk_drew ?_ | refine blk_alloc ?_ _)); refine blk_far ?_ NB387_386.out _; (with_reducible repeat (first | refine blk_drewN ?_ _ | refine blk_drew ?_ | refine blk_alloc ?_ _)); exact BK387.out) hb); replace HB := bs hb; (try clear hb); have hcz111_0 := bc BK386 0 (.int .i64 t379); have hcz111_1 := bc BK386 1 (.bool t380); have hcz111_2 := bc BK386 2 (.int .i64 t381); have hfz111_0 := blk_frozen BK386.out 0; have hfz111_1 := blk_frozen BK386.out 1; have hfz111_2 := blk_frozen BK386.out 2; have hcz112_0 := bc BK387 0 (.int .i64 t382); have hcz112_1 := bc BK387 1 (.bool t383); have hcz112_2 := bc BK387 2 (.int .i64 t384); have hfz112_0 := blk_frozen BK387.out 0; have hfz112_1 := blk_frozen BK387.out 1; have hfz112_2 := blk_frozen BK387.out 2) | ((with_reducible refine gate_callee (f := 18) rfl ?_); refine gl (some 262) Try.func18 #[.int .i64 t378, .agg #[.int .i64 t379, .bool t380, .int .i64 t381], .agg #[.int .i64 t382, .bool t383, .int .i64 t384], .int .i64 t385] ?_; (with_reducible refine (spec_CountMeetings.calls kj26 t378 t379 t380 t381 t382 t383 t384 t385 t390 t391 _ A65.out).mono ?_); rintro e w113 ⟨rfl, hb⟩; refine ⟨_, rfl, ?_⟩; replace HO357 := Aside0.mk (Kd.R_below (pr HO357) hb); replace HO361 := Aside0.mk (Kd.R_below (pr HO361) hb); replace BK335 := nk BK335 hb; replace BK354 := nk BK354 hb; replace BK370 := nk BK370 hb; replace BK371 := nk BK371 hb; replace BK386 := nk BK386 hb; replace BK387 := nk BK387 hb; replace HB := bs hb; (try clear hb); obtain ⟨Ao114, co114, eo114⟩ := Kd.R_slice HO357.out; subst eo114; obtain ⟨Ao115, co115, eo115⟩ := Kd.R_slice HO361.out; subst eo115) | (go_at_call 19; (with_reducible refine (laws_vSame.calls kj26 _ _ t355 _ _ t359 true _ ?side1 ?side2 ?side3 ?side4 A67.out).mono ?_); (case side1 => repeat (first | exact (Kd.R_reads' HO357.out).2.2 | (with_reducible refine Kd.C_alloc ?_ _) | (with_reducible refine Kd.C_drewN ?_ _) | (with_reducible refine Kd.C_drew ?_))); (case side2 => exact (Kd.R_reads' HO357.out).2.1); (case side3 => repeat (first | exact (Kd.R_reads' HO361.out).2.2 | (with_reducible refine Kd.C_alloc ?_ _) | (with_reducible refine Kd.C_drewN ?_ _) | (with_reducible refine Kd.C_drew ?_))); (case side4 => exact (Kd.R_reads' HO361.out).2.1); rintro e w' ⟨rfl, ⟨nd, rfl⟩⟩))
              (try simp only [Act.put, List.setIfInBounds_toArray, List.set_cons_zero, List.set_cons_succ])
              go_cut [241, 256, 264, 265, 266, 267, 268, 271, 272, 273, 274, 275, 276, 277, 278, 279, 282, 283, 284, 286, 287, 288, 289, 290, 291, 292, 293, 294, 295, 296, 297, 298, 299] from 9999 (fun _ _ _ _ _ _ _ _ _ _ _ _ _ _ _ _ _ _ _ _ _ _ _ _ _ _ _ _ _ _ _ _ _ wc => ∃ (kq : Nat), Aside0 (laws_FnSignalsGo.j5 kq t363 t372 t373 t374 t385 t388 t389 t364 t365 t366 t367 t368 t369 = some r) ∧ Aside0 (kq ≤ kj26) ∧ Aside0 (wc.heap[gb335]? = some (.cells #[.int .i64 t331, .bool t332, .int .i64 t333] 25 (0, 0))) ∧ Aside0 (wc.heap[gb354]? = some (.cells #[.int .i64 t349, .bool t350, .int .i64 t351] 25 (0, 0))) ∧ Aside0 (wc.heap[gb370]? = some (.cells #[.int .i64 t364, .bool t365, .int .i64 t366] 25 (0, 0))) ∧ Aside0 (wc.heap[gb371]? = some (.cells #[.int .i64 t367, .bool t368, .int .i64 t369] 25 (0, 0))) ∧ Aside0 (wc.heap[gb386]? = some (.cells #[.int .i64 t379, .bool t380, .int .i64 t381] 25 (0, 0))) ∧ Aside0 (wc.heap[gb387]? = some (.cells #[.int .i64 t382, .bool t383, .int .i64 t384] 25 (0, 0))) ∧ Aside0 (Below w.heap.size w wc))
              case first =>
               have H := HC74.out
               clear HC74
               by_cases c116 : t358 = true
               ·subst c116
                rw [if_pos rfl] at H
                replace H := Option.bind_eq_some_iff.mp H
                obtain ⟨t393, A1170, H⟩ := H
                (try dsimp only at H)
                have A117 := Aside0.mk A1170
                clear A1170
                by_cases c118 : t393 = true
                ·subst c118
                 rw [if_pos rfl] at H
                 have H' := Aside0.mk H
                 clear H
                 go_wp2_with (first | ((with_reducible refine gate_callee (f := 20) rfl ?_); refine gl (some 301) Try.func20 #[.slice Ao114 t355.length co114] ?_; (with_reducible refine (laws_vRises.calls kj26 _ _ t355 true _ ?side1 ?side2 A117.out).mono ?_); (case side1 => repeat (first | exact (Kd.R_reads' HO357.out).2.2 | (with_reducible refine Kd.C_alloc ?_ _) | (with_reducible refine Kd.C_drewN ?_ _) | (with_reducible refine Kd.C_drew ?_))); (case side2 => exact (Kd.R_reads' HO357.out).2.1); rintro e w' ⟨rfl, ⟨nd, rfl⟩⟩; refine ⟨_, rfl, ?_⟩))
                 go_loopg [305] kj26 (fun kq v305 w' => ∃ (x305_3 : Int), v305 = .int .i64 x305_3 ∧ Aside0 (laws_FnSignalsGo.l0 kq t348 t352 t353 t363 t372 t373 t374 t385 t388 t389 t355 (t355.length : Int) x305_3 t349 t350 t351 t364 t365 t366 t367 t368 t369 = some r) ∧ Aside0 (kq ≤ kj26) ∧ Aside0 (Kd.R (Kd.int .i64) 3 w' w.heap.size (fun _ => True) (.slice Ao114 t355.length co114) t355) ∧ Aside0 (w'.heap[gb335]? = some (.cells #[.int .i64 t331, .bool t332, .int .i64 t333] 25 (0, 0))) ∧ Aside0 (w'.heap[gb354]? = some (.cells #[.int .i64 t349, .bool t350, .int .i64 t351] 25 (0, 0))) ∧ Aside0 (w'.heap[gb370]? = some (.cells #[.int .i64 t364, .bool t365, .int .i64 t366] 25 (0, 0))) ∧ Aside0 (w'.heap[gb371]? = some (.cells #[.int .i64 t367, .bool t368, .int .i64 t369] 25 (0, 0))) ∧ Aside0 (w'.heap[gb386]? = some (.cells #[.int .i64 t379, .bool t380, .int .i64 t381] 25 (0, 0))) ∧ Aside0 (w'.heap[gb387]? = some (.cells #[.int .i64 t382, .bool t383, .int .i64 t384] 25 (0, 0))) ∧ Aside0 (Below w.heap.size w w'))
                 case atStart => exact ⟨(0), (rs), H', ⟨Nat.le_refl _⟩, ⟨by (with_reducible repeat (first | apply Kd.R_alloc | apply Kd.R_drewN | apply Kd.R_drew)); exact Kd.R_mono HO357.out (fun _ hk => trivial)⟩, ⟨pk BK335⟩, ⟨pk BK354⟩, ⟨pk BK370⟩, ⟨pk BK371⟩, ⟨pk BK386⟩, ⟨pk BK387⟩, ⟨bw⟩⟩
                 case round =>
                  clear H'
                  try clear c1
                  try clear c2
                  try clear p2
                  try clear c3
                  try clear c4
                  try clear c5
                  try clear c6
                  try clear p6
                  try clear c7
                  try clear c8
                  try clear c9
                  try clear c10
                  try clear c11
                  try clear c12
                  try clear c13
                  try clear c14
                  try clear c15
                  try clear c16
                  try clear c17
                  try clear c18
                  try clear c20
                  try clear c21
                  try clear c21b0
                  try clear c21b1
                  try clear c21b2
                  try clear c22
                  try clear c22b0
                  try clear c22b1
                  try clear c23
                  try clear c23b0
                  try clear c23b1
                  try clear c23b2
                  try clear c24
                  try clear c24b0
                  try clear c24b1
                  try clear c25
                  try clear c26
                  try clear c28
                  try clear c29
                  try clear c29b0
                  try clear c30
                  try clear c30b0
                  try clear c31
                  try clear c31b0
                  try clear c33
                  try clear c33b0
                  try clear c35
                  try clear c36
                  try clear c36b0
                  try clear c36b1
                  try clear c39
                  try clear c39b0
                  try clear c44
                  try clear c45
                  try clear c45b0
                  try clear c46
                  try clear c46b0
                  try clear c47
                  try clear c47b0
                  try clear c48
                  try clear c48b0
                  try clear c48b1
                  try clear c50
                  try clear c51
                  try clear c51b0
                  try clear c51b1
                  try clear c52
                  try clear c52b0
                  try clear c52b1
                  try clear c54
                  try clear c54b0
                  try clear c54b1
                  try clear c55
                  try clear c55b0
                  try clear c55b1
                  try clear p64
                  try clear c66
                  try clear c66b0
                  try clear c66b1
                  try clear c66b2
                  try clear c68
                  try clear c69
                  try clear c69b0
                  try clear c69b1
                  try clear c69b2
                  try clear c70
                  try clear c70b0
                  try clear c70b1
                  try clear c71
                  try clear c71b0
                  try clear c71b1
                  try clear c72
                  try clear c72b0
                  try clear c72b1
                  try clear c72b2
                  try clear c73
                  try clear c73b0
                  try clear c73b1
                  try clear c77
                  try clear c85
                  try clear c86
                  try clear c87
                  try clear c89
                  try clear c90
                  try clear c99
                  try clear c100
                  try clear c101
                  try clear c102
                  try clear c103
                  try clear c105
                  try clear c106
                  try clear c107
                  try clear c108
                  try clear c116
                  try clear c118
                  try clear hcz104_0
                  try clear hcz104_1
                  try clear hcz104_2
                  try clear hcz109_0
                  try clear hcz109_1
                  try clear hcz109_2
                  try clear hcz111_0
                  try clear hcz111_1
                  try clear hcz111_2
                  try clear hcz112_0
                  try clear hcz112_1
                  try clear hcz112_2
                  try clear hcz13_0
                  try clear hcz13_1
                  try clear hcz13_2
                  try clear hcz15_0
                  try clear hcz15_1
                  try clear hcz15_2
                  try clear hcz17_0
                  try clear hcz17_1
                  try clear hcz17_2
                  try clear hcz19_0
                  try clear hcz19_1
                  try clear hcz19_2
                  try clear hcz37_0
                  try clear hcz37_1
                  try clear hcz37_2
                  try clear hcz42_0
                  try clear hcz42_1
                  try clear hcz42_2
                  try clear hcz49_0
                  try clear hcz49_1
                  try clear hcz49_2
                  try clear hcz53_0
                  try clear hcz53_1
                  try clear hcz53_2
                  try clear hcz56_0
                  try clear hcz56_1
                  try clear hcz56_2
                  try clear hcz78_0
                  try clear hcz78_1
                  try clear hcz78_2
                  try clear hcz80_0
                  try clear hcz80_1
                  try clear hcz80_2
                  try clear hcz88_0
                  try clear hcz88_1
                  try clear hcz88_2
                  try clear hcz91_0
                  try clear hcz91_1
                  try clear hcz91_2
                  try clear hcz93_0
                  try clear hcz93_1
                  try clear hcz93_2
                  try clear hcz94_0
                  try clear hcz94_1
                  try clear hcz94_2
                  try clear hfz104_0
                  try clear hfz104_1
                  try clear hfz104_2
                  try clear hfz109_0
                  try clear hfz109_1
                  try clear hfz109_2
                  try clear hfz111_0
                  try clear hfz111_1
                  try clear hfz111_2
                  try clear hfz112_0
                  try clear hfz112_1
                  try clear hfz112_2
                  try clear hfz13_0
                  try clear hfz13_1
                  try clear hfz13_2
                  try clear hfz15_0
                  try clear hfz15_1
                  try clear hfz15_2
                  try clear hfz17_0
                  try clear hfz17_1
                  try clear hfz17_2
                  try clear hfz19_0
                  try clear hfz19_1
                  try clear hfz19_2
                  try clear hfz37_0
                  try clear hfz37_1
                  try clear hfz37_2
                  try clear hfz42_0
                  try clear hfz42_1
                  try clear hfz42_2
                  try clear hfz49_0
                  try clear hfz49_1
                  try clear hfz49_2
                  try clear hfz53_0
                  try clear hfz53_1
                  try clear hfz53_2
                  try clear hfz56_0
                  try clear hfz56_1
                  try clear hfz56_2
                  try clear hfz78_0
                  try clear hfz78_1
                  try clear hfz78_2
                  try clear hfz80_0
                  try clear hfz80_1
                  try clear hfz80_2
                  try clear hfz88_0
                  try clear hfz88_1
                  try clear hfz88_2
                  try clear hfz91_0
                  try clear hfz91_1
                  try clear hfz91_2
                  try clear hfz93_0
                  try clear hfz93_1
                  try clear hfz93_2
                  try clear hfz94_0
                  try clear hfz94_1
                  try clear hfz94_2
                  try clear p2
                  try clear p6
                  obtain ⟨x305_3, rfl, HA, HK3, HO_303, BK335, BK354, BK370, BK371, BK386, BK387, HB⟩ := hrel
                  cases gk with
                  | zero => exact absurd HA.out (by simp [laws_FnSignalsGo.l0])
                  | succ k3 =>
                   have H := HA.out
                   clear HA
                   simp only [laws_FnSignalsGo.l0] at H
                   by_cases c119 : x305_3 < (t355.length : Int)
                   ·rw [if_pos c119] at H
                    have c119b0 : decide (x305_3 < (t355.length : Int)) = true := decide_eq_true c119
                    clear c119
                    (first | rw [c119b0] | rw [@decide_eq_true _ _ (of_decide_eq_true c119b1)] | rw [@decide_eq_false _ _ (of_decide_eq_false c119b1)] | (simp only [i64_w, i32_w]; rw [c119b0]) | skip)
                    by_cases c120 : 0 ≤ x305_3
                    ·rw [if_pos c120] at H
                     have c120b0 : decide (0 ≤ x305_3) = true := decide_eq_true c120
                     clear c120
                     by_cases c121 : x305_3 < (t355.length : Int)
                     ·rw [if_pos c121] at H
                      have c121b0 : decide (x305_3 < (t355.length : Int)) = true := decide_eq_true c121
                      clear c121
                      replace H := Option.bind_eq_some_iff.mp H
                      obtain ⟨⟨t395, t396⟩, A1220, H⟩ := H
                      (try dsimp only at H)
                      have A122 := Aside0.mk A1220
                      clear A1220
                      by_cases c123 : (rd t355 x305_3) < 0
                      ·rw [if_pos c123] at H
                       have c123b0 : decide ((rd t355 x305_3) < 0) = true := decide_eq_true c123
                       clear c123
                       exact absurd (Option.some.inj H) (by rw [HRT.out]; decide)
                      ·rw [if_neg c123] at H
                       have c123b0 : decide ((rd t355 x305_3) < 0) = false := decide_eq_false c123
                       clear c123
                       by_cases c124 : (rd t355 x305_3) > t353
                       ·rw [if_pos c124] at H
                        have c124b0 : decide (t353 < (rd t355 x305_3)) = true := decide_eq_true c124
                        clear c124
                        exact absurd (Option.some.inj H) (by rw [HRT.out]; decide)
                       ·rw [if_neg c124] at H
                        have c124b0 : decide (t353 < (rd t355 x305_3)) = false := decide_eq_false c124
                        clear c124
                        by_cases c125 : t351 = 0
                        ·rw [if_pos c125] at H
                         exact absurd H (by simp)
                        ·rw [if_neg c125] at H
                         have c125b0 : (t351 == 0) = false := beq_eq_false_iff_ne.mpr c125
                         have c125b1 : (t351 != 0) = true := bne_iff_ne.mpr c125
                         by_cases c126 : (Int.tmod (rd t355 x305_3) t351) = 0
                         ·rw [if_pos c126] at H
                          have c126b0 : ((Int.tmod (rd t355 x305_3) t351) == 0) = true := beq_iff_eq.mpr c126
                          have c126b1 : ((Int.tmod (rd t355 x305_3) t351) != 0) = false := bne_eq_false_iff_eq.mpr c126
                          clear c126
                          by_cases c127 : t396 = true
                          ·subst c127
                           rw [if_pos rfl] at H
                           by_cases c128 : t395 = t352
                           ·rw [if_pos c128] at H
                            have c128b0 : (t395 == t352) = true := beq_iff_eq.mpr c128
                            have c128b1 : (t395 != t352) = false := bne_eq_false_iff_eq.mpr c128
                            clear c128
                            have H' := Aside0.mk H
                            clear H
                            have p394 : 0 ≤ (x305_3 : Int) := of_decide_eq_true (by first | (with_reducible assumption) | assumption)
                            have q394 : x305_3 < (t355.length : Int) := of_decide_eq_true (by first | (with_reducible assumption) | assumption)
                            obtain ⟨ad394, e394, hx394_0⟩ := Kd.at_int (Kd.R_reads' HO_303.out).2.2 x305_3 p394 q394
                            cases e394
                            replace p394 := eq_true p394
                            replace q394 := eq_true q394
                            have hnb129 := NB354_335.out
                            have hnc129 := NB335_354.out
                            have hnb130 := NB354_370.out
                            have hnc130 := NB370_354.out
                            have hnb131 := NB354_371.out
                            have hnc131 := NB371_354.out
                            have hnb132 := NB354_386.out
                            have hnc132 := NB386_354.out
                            have hnb133 := NB354_387.out
                            have hnc133 := NB387_354.out
                            have hcz134_0 : wr.cell? ⟨gb354, 0, none⟩ = some (.int .i64 t349) := ec BK354
                            have hcz134_1 : wr.cell? ⟨gb354, 1, none⟩ = some (.bool t350) := ec BK354
                            have hcz134_2 : wr.cell? ⟨gb354, 2, none⟩ = some (.int .i64 t351) := ec BK354
                            have hfz134_0 := blk_frozen BK354.out 0
                            have hfz134_1 := blk_frozen BK354.out 1
                            have hfz134_2 := blk_frozen BK354.out 2
                            go_wp2_with (first | ((with_reducible refine gate_callee (f := 6) rfl ?_); refine gl (some 313) Try.func6 #[.int .i64 t348, .agg #[.int .i64 t349, .bool t350, .int .i64 t351], .int .i64 (rd t355 x305_3)] ?_; (with_reducible refine (impl_SignalAt.calls t348 t349 t350 t351 (rd t355 x305_3) t395 true _ A122.out).mono ?_); rintro e w135 ⟨rfl, hb⟩; refine ⟨_, rfl, ?_⟩; replace HO_303 := Aside0.mk (Kd.R_below (pr HO_303) hb); replace BK335 := nk BK335 hb; replace BK354 := nk BK354 hb; replace BK370 := nk BK370 hb; replace BK371 := nk BK371 hb; replace BK386 := nk BK386 hb; replace BK387 := nk BK387 hb; replace HB := bs hb; (try clear hb); have hcz136_0 := bc BK354 0 (.int .i64 t349); have hcz136_1 := bc BK354 1 (.bool t350); have hcz136_2 := bc BK354 2 (.int .i64 t351); have hfz136_0 := blk_frozen BK354.out 0; have hfz136_1 := blk_frozen BK354.out 1; have hfz136_2 := blk_frozen BK354.out 2))
                            go_roundg k3
                            case measure => have := HJ9.out; have := HJ26.out; have := HK3.out; omega
                            case rel => exact ⟨(wrap64 (x305_3 + 1)), (rs), H', ⟨by have := HJ9.out; have := HJ26.out; have := HK3.out; omega⟩, ⟨pr HO_303⟩, ⟨pk BK335⟩, ⟨pk BK354⟩, ⟨pk BK370⟩, ⟨pk BK371⟩, ⟨pk BK386⟩, ⟨pk BK387⟩, ⟨bw⟩⟩
                           ·rw [if_neg c128] at H
                            have c128b0 : (t395 == t352) = false := beq_eq_false_iff_ne.mpr c128
                            have c128b1 : (t395 != t352) = true := bne_iff_ne.mpr c128
                            exact absurd (Option.some.inj H) (by rw [HRT.out]; decide)
                          ·replace c127 := Bool.eq_false_iff.mpr c127
                           subst c127
                           rw [if_neg (show ¬ (false = true) by decide)] at H
                           exact absurd (Option.some.inj H) (by rw [HRT.out]; decide)
                         ·rw [if_neg c126] at H
                          have c126b0 : ((Int.tmod (rd t355 x305_3) t351) == 0) = false := beq_eq_false_iff_ne.mpr c126
                          have c126b1 : ((Int.tmod (rd t355 x305_3) t351) != 0) = true := bne_iff_ne.mpr c126
                          exact absurd (Option.some.inj H) (by rw [HRT.out]; decide)
                     ·rw [if_neg c121] at H
                      exact absurd H (by simp)
                    ·rw [if_neg c120] at H
                     exact absurd H (by simp)
                   ·rw [if_neg c119] at H
                    have c119b0 : decide (x305_3 < (t355.length : Int)) = false := decide_eq_false c119
                    clear c119
                    (first | rw [c119b0] | rw [@decide_eq_true _ _ (of_decide_eq_true c119b1)] | rw [@decide_eq_false _ _ (of_decide_eq_false c119b1)] | (simp only [i64_w, i32_w]; rw [c119b0]) | skip)
                    have H' := Aside0.mk H
                    clear H
                    go_wp2
                    go_meet
                    case rel => exact ⟨_, H', ⟨by have := HJ9.out; have := HJ26.out; have := HK3.out; first | omega | exact Nat.le_refl _⟩, ⟨pk BK335⟩, ⟨pk BK354⟩, ⟨pk BK370⟩, ⟨pk BK371⟩, ⟨pk BK386⟩, ⟨pk BK387⟩, ⟨bw⟩⟩
                ·replace c118 := Bool.eq_false_iff.mpr c118
                 subst c118
                 rw [if_neg (show ¬ (false = true) by decide)] at H
                 exact absurd (Option.some.inj H) (by rw [HRT.out]; decide)
               ·replace c116 := Bool.eq_false_iff.mpr c116
                subst c116
                rw [if_neg (show ¬ (false = true) by decide)] at H
                have H' := Aside0.mk H
                clear H
                go_wp2
                go_meet
                case rel => exact ⟨_, H', ⟨by have := HJ9.out; have := HJ26.out; first | omega | exact Nat.le_refl _⟩, ⟨pk BK335⟩, ⟨pk BK354⟩, ⟨pk BK370⟩, ⟨pk BK371⟩, ⟨pk BK386⟩, ⟨pk BK387⟩, ⟨bw⟩⟩
              case rest => as_aux_lemma =>
               clear HC74
               try clear c1
               try clear c2
               try clear p2
               try clear c3
               try clear p3
               try clear q3
               try clear hx3
               try clear c4
               try clear c5
               try clear c6
               try clear p6
               try clear c7
               try clear c8
               try clear c9
               try clear c10
               try clear c11
               try clear c12
               try clear c13
               try clear c14
               try clear c15
               try clear c16
               try clear c17
               try clear c18
               try clear c20
               try clear c21
               try clear c21b0
               try clear c21b1
               try clear c21b2
               try clear c22
               try clear c22b0
               try clear c22b1
               try clear c23
               try clear c23b0
               try clear c23b1
               try clear c23b2
               try clear c24
               try clear c24b0
               try clear c24b1
               try clear c25
               try clear c26
               try clear c28
               try clear c29
               try clear c29b0
               try clear c30
               try clear c30b0
               try clear c31
               try clear c31b0
               try clear c33
               try clear c33b0
               try clear c35
               try clear c36
               try clear c36b0
               try clear c36b1
               try clear c39
               try clear c39b0
               try clear p39
               try clear q39
               try clear hx39
               try clear c44
               try clear c45
               try clear c45b0
               try clear c46
               try clear c46b0
               try clear c47
               try clear c47b0
               try clear c48
               try clear c48b0
               try clear c48b1
               try clear c50
               try clear c51
               try clear c51b0
               try clear c51b1
               try clear c52
               try clear c52b0
               try clear c52b1
               try clear c54
               try clear c54b0
               try clear c54b1
               try clear c55
               try clear c55b0
               try clear c55b1
               try clear p64
               try clear c66
               try clear c66b0
               try clear c66b1
               try clear c66b2
               try clear c68
               try clear c69
               try clear c69b0
               try clear c69b1
               try clear c69b2
               try clear c70
               try clear c70b0
               try clear c70b1
               try clear c71
               try clear c71b0
               try clear c71b1
               try clear c72
               try clear c72b0
               try clear c72b1
               try clear c72b2
               try clear c73
               try clear c73b0
               try clear c73b1
               try clear c77
               try clear c85
               try clear c86
               try clear c87
               try clear c89
               try clear c90
               try clear c99
               try clear c100
               try clear c101
               try clear c102
               try clear c103
               try clear c105
               try clear c106
               try clear c107
               try clear c108
               try clear c116
               try clear c118
               try clear c119
               try clear c119b0
               try clear c120
               try clear c120b0
               try clear c121
               try clear c121b0
               try clear c123
               try clear c123b0
               try clear c124
               try clear c124b0
               try clear c125
               try clear c125b0
               try clear c125b1
               try clear c126
               try clear c126b0
               try clear c126b1
               try clear c127
               try clear c128
               try clear c128b0
               try clear c128b1
               try clear c129
               try clear c130
               try clear c131
               try clear c132
               try clear c133
               try clear hcz104_0
               try clear hcz104_1
               try clear hcz104_2
               try clear hcz109_0
               try clear hcz109_1
               try clear hcz109_2
               try clear hcz111_0
               try clear hcz111_1
               try clear hcz111_2
               try clear hcz112_0
               try clear hcz112_1
               try clear hcz112_2
               try clear hcz134_0
               try clear hcz134_1
               try clear hcz134_2
               try clear hcz136_0
               try clear hcz136_1
               try clear hcz136_2
               try clear hcz13_0
               try clear hcz13_1
               try clear hcz13_2
               try clear hcz15_0
               try clear hcz15_1
               try clear hcz15_2
               try clear hcz17_0
               try clear hcz17_1
               try clear hcz17_2
               try clear hcz19_0
               try clear hcz19_1
               try clear hcz19_2
               try clear hcz37_0
               try clear hcz37_1
               try clear hcz37_2
               try clear hcz42_0
               try clear hcz42_1
               try clear hcz42_2
               try clear hcz49_0
               try clear hcz49_1
               try clear hcz49_2
               try clear hcz53_0
               try clear hcz53_1
               try clear hcz53_2
               try clear hcz56_0
               try clear hcz56_1
               try clear hcz56_2
               try clear hcz78_0
               try clear hcz78_1
               try clear hcz78_2
               try clear hcz80_0
               try clear hcz80_1
               try clear hcz80_2
               try clear hcz88_0
               try clear hcz88_1
               try clear hcz88_2
               try clear hcz91_0
               try clear hcz91_1
               try clear hcz91_2
               try clear hcz93_0
               try clear hcz93_1
               try clear hcz93_2
               try clear hcz94_0
               try clear hcz94_1
               try clear hcz94_2
               try clear hfz104_0
               try clear hfz104_1
               try clear hfz104_2
               try clear hfz109_0
               try clear hfz109_1
               try clear hfz109_2
               try clear hfz111_0
               try clear hfz111_1
               try clear hfz111_2
               try clear hfz112_0
               try clear hfz112_1
               try clear hfz112_2
               try clear hfz134_0
               try clear hfz134_1
               try clear hfz134_2
               try clear hfz136_0
               try clear hfz136_1
               try clear hfz136_2
               try clear hfz13_0
               try clear hfz13_1
               try clear hfz13_2
               try clear hfz15_0
               try clear hfz15_1
               try clear hfz15_2
               try clear hfz17_0
               try clear hfz17_1
               try clear hfz17_2
               try clear hfz19_0
               try clear hfz19_1
               try clear hfz19_2
               try clear hfz37_0
               try clear hfz37_1
               try clear hfz37_2
               try clear hfz42_0
               try clear hfz42_1
               try clear hfz42_2
               try clear hfz49_0
               try clear hfz49_1
               try clear hfz49_2
               try clear hfz53_0
               try clear hfz53_1
               try clear hfz53_2
               try clear hfz56_0
               try clear hfz56_1
               try clear hfz56_2
               try clear hfz78_0
               try clear hfz78_1
               try clear hfz78_2
               try clear hfz80_0
               try clear hfz80_1
               try clear hfz80_2
               try clear hfz88_0
               try clear hfz88_1
               try clear hfz88_2
               try clear hfz91_0
               try clear hfz91_1
               try clear hfz91_2
               try clear hfz93_0
               try clear hfz93_1
               try clear hfz93_2
               try clear hfz94_0
               try clear hfz94_1
               try clear hfz94_2
               try clear hx394_0
               try clear p2
               try clear p394
               try clear p6
               try clear p64
               try clear q394
               obtain ⟨kq, HA, HJ73, BK335, BK354, BK370, BK371, BK386, BK387, HB⟩ := hcut
               cases kq with
               | zero => exact absurd HA.out (by simp [laws_FnSignalsGo.j5])
               | succ kj73 =>
                have H := HA.out
                clear HA
                simp only [laws_FnSignalsGo.j5] at H
                by_cases c137 : t374 = true
                ·subst c137
                 rw [if_pos rfl] at H
                 replace H := Option.bind_eq_some_iff.mp H
                 obtain ⟨⟨t397, t398⟩, A1380, H⟩ := H
                 (try dsimp only at H)
                 have A138 := Aside0.mk A1380
                 clear A1380
                 replace H := Option.bind_eq_some_iff.mp H
                 obtain ⟨⟨t399, t400⟩, A1390, H⟩ := H
                 (try dsimp only at H)
                 have A139 := Aside0.mk A1390
                 clear A1390
                 replace H := Option.bind_eq_some_iff.mp H
                 obtain ⟨⟨t401, t402, t403⟩, A1400, H⟩ := H
                 (try dsimp only at H)
                 have A140 := Aside0.mk A1400
                 clear A1400
                 by_cases c141 : t398 = true
                 ·subst c141
                  rw [if_pos rfl] at H
                  by_cases c142 : t397 = t373
                  ·rw [if_pos c142] at H
                   have c142b0 : (t397 == t373) = true := beq_iff_eq.mpr c142
                   have c142b1 : (t397 != t373) = false := bne_eq_false_iff_eq.mpr c142
                   clear c142
                   by_cases c143 : t400 = true
                   ·subst c143
                    rw [if_pos rfl] at H
                    by_cases c144 : t399 = t373
                    ·rw [if_pos c144] at H
                     have c144b0 : (t399 == t373) = true := beq_iff_eq.mpr c144
                     have c144b1 : (t399 != t373) = false := bne_eq_false_iff_eq.mpr c144
                     clear c144
                     by_cases c145 : t403 = true
                     ·subst c145
                      rw [if_pos rfl] at H
                      by_cases c146 : t401 = t372
                      ·rw [if_pos c146] at H
                       have c146b0 : (t401 == t372) = true := beq_iff_eq.mpr c146
                       have c146b1 : (t401 != t372) = false := bne_eq_false_iff_eq.mpr c146
                       clear c146
                       by_cases c147 : t402 = t373
                       ·rw [if_pos c147] at H
                        have c147b0 : (t402 == t373) = true := beq_iff_eq.mpr c147
                        have c147b1 : (t402 != t373) = false := bne_eq_false_iff_eq.mpr c147
                        clear c147
                        by_cases c148 : t372 ≤ 1000
                        ·rw [if_pos c148] at H
                         have c148b0 : decide (t372 ≤ 1000) = true := decide_eq_true c148
                         clear c148
                         replace H := Option.bind_eq_some_iff.mp H
                         obtain ⟨⟨t404, t405⟩, A1490, H⟩ := H
                         (try dsimp only at H)
                         have A149 := Aside0.mk A1490
                         clear A1490
                         by_cases c150 : t405 = true
                         ·subst c150
                          rw [if_pos rfl] at H
                          by_cases c151 : t404 = 1
                          ·rw [if_pos c151] at H
                           have c151b0 : (t404 == 1) = true := beq_iff_eq.mpr c151
                           have c151b1 : (t404 != 1) = false := bne_eq_false_iff_eq.mpr c151
                           clear c151
                           by_cases c152 : t389 = true
                           ·subst c152
                            rw [if_pos rfl] at H
                            by_cases c153 : t388 < 0
                            ·rw [if_pos c153] at H
                             have c153b0 : decide (t388 < 0) = true := decide_eq_true c153
                             clear c153
                             exact absurd (Option.some.inj H) (by rw [HRT.out]; decide)
                            ·rw [if_neg c153] at H
                             have c153b0 : decide (t388 < 0) = false := decide_eq_false c153
                             clear c153
                             by_cases c154 : t388 > (wrap64 (t385 + 1))
                             ·rw [if_pos c154] at H
                              have c154b0 : decide ((wrap64 (t385 + 1)) < t388) = true := decide_eq_true c154
                              clear c154
                              exact absurd (Option.some.inj H) (by rw [HRT.out]; decide)
                             ·rw [if_neg c154] at H
                              have c154b0 : decide ((wrap64 (t385 + 1)) < t388) = false := decide_eq_false c154
                              clear c154
                              obtain rfl := Option.some.inj H
                              have hnb155 := NB370_335.out
                              have hnc155 := NB335_370.out
                              have hnb156 := NB370_354.out
                              have hnc156 := NB354_370.out
                              have hnb157 := NB370_371.out
                              have hnc157 := NB371_370.out
                              have hnb158 := NB370_386.out
                              have hnc158 := NB386_370.out
                              have hnb159 := NB370_387.out
                              have hnc159 := NB387_370.out
                              have hcz160_0 : wc.cell? ⟨gb370, 0, none⟩ = some (.int .i64 t364) := ec BK370
                              have hcz160_1 : wc.cell? ⟨gb370, 1, none⟩ = some (.bool t365) := ec BK370
                              have hcz160_2 : wc.cell? ⟨gb370, 2, none⟩ = some (.int .i64 t366) := ec BK370
                              have hfz160_0 := blk_frozen BK370.out 0
                              have hfz160_1 := blk_frozen BK370.out 1
                              have hfz160_2 := blk_frozen BK370.out 2
                              go_wp2_with (first | ((with_reducible refine gate_callee (f := 6) rfl ?_); refine gl (some 345) Try.func6 #[.int .i64 t363, .agg #[.int .i64 t364, .bool t365, .int .i64 t366], .int .i64 t372] ?_; (with_reducible refine (impl_SignalAt.calls t363 t364 t365 t366 t372 t397 true _ A138.out).mono ?_); rintro e w161 ⟨rfl, hb⟩; refine ⟨_, rfl, ?_⟩; replace BK335 := nk BK335 hb; replace BK354 := nk BK354 hb; replace BK370 := nk BK370 hb; replace BK371 := nk BK371 hb; replace BK386 := nk BK386 hb; replace BK387 := nk BK387 hb; replace HB := bs hb; (try clear hb); have hnb162 := NB371_335.out; have hnc162 := NB335_371.out; have hnb163 := NB371_354.out; have hnc163 := NB354_371.out; have hnb164 := NB371_386.out; have hnc164 := NB386_371.out; have hnb165 := NB371_387.out; have hnc165 := NB387_371.out; have hcz166_0 := bc BK371 0 (.int .i64 t367); have hcz166_1 := bc BK371 1 (.bool t368); have hcz166_2 := bc BK371 2 (.int .i64 t369); have hfz166_0 := blk_frozen BK371.out 0; have hfz166_1 := blk_frozen BK371.out 1; have hfz166_2 := blk_frozen BK371.out 2) | ((with_reducible refine gate_callee (f := 6) rfl ?_); refine gl (some 352) Try.func6 #[.int .i64 t363, .agg #[.int .i64 t367, .bool t368, .int .i64 t369], .int .i64 t372] ?_; (with_reducible refine (impl_SignalAt.calls t363 t367 t368 t369 t372 t399 true _ A139.out).mono ?_); rintro e w167 ⟨rfl, hb⟩; refine ⟨_, rfl, ?_⟩; replace BK335 := nk BK335 hb; replace BK354 := nk BK354 hb; replace BK370 := nk BK370 hb; replace BK371 := nk BK371 hb; replace BK386 := nk BK386 hb; replace BK387 := nk BK387 hb; replace HB := bs hb; (try clear hb); have hcz168_0 := bc BK371 0 (.int .i64 t367); have hcz168_1 := bc BK371 1 (.bool t368); have hcz168_2 := bc BK371 2 (.int .i64 t369); have hfz168_0 := blk_frozen BK371.out 0; have hfz168_1 := blk_frozen BK371.out 1; have hfz168_2 := blk_frozen BK371.out 2; have hcz169_0 := bc BK370 0 (.int .i64 t364); have hcz169_1 := bc BK370 1 (.bool t365); have hcz169_2 := bc BK370 2 (.int .i64 t366); have hfz169_0 := blk_frozen BK370.out 0; have hfz169_1 := blk_frozen BK370.out 1; have hfz169_2 := blk_frozen BK370.out 2) | ((with_reducible refine gate_callee (f := 14) rfl ?_); refine gl (some 359) Try.func14 #[.int .i64 t363, .agg #[.int .i64 t367, .bool t368, .int .i64 t369], .agg #[.int .i64 t364, .bool t365, .int .i64 t366]] ?_; (with_reducible refine (impl_FirstMeeting.calls kj73 t363 t367 t368 t369 t364 t365 t366 t401 t402 true _ A140.out).mono ?_); rintro e w170 ⟨rfl, hb⟩; refine ⟨_, rfl, ?_⟩; replace BK335 := nk BK335 hb; replace BK354 := nk BK354 hb; replace BK370 := nk BK370 hb; replace BK371 := nk BK371 hb; replace BK386 := nk BK386 hb; replace BK387 := nk BK387 hb; replace HB := bs hb; (try clear hb); have hcz171_0 := bc BK370 0 (.int .i64 t364); have hcz171_1 := bc BK370 1 (.bool t365); have hcz171_2 := bc BK370 2 (.int .i64 t366); have hfz171_0 := blk_frozen BK370.out 0; have hfz171_1 := blk_frozen BK370.out 1; have hfz171_2 := blk_frozen BK370.out 2; have hcz172_0 := bc BK371 0 (.int .i64 t367); have hcz172_1 := bc BK371 1 (.bool t368); have hcz172_2 := bc BK371 2 (.int .i64 t369); have hfz172_0 := blk_frozen BK371.out 0; have hfz172_1 := blk_frozen BK371.out 1; have hfz172_2 := blk_frozen BK371.out 2) | ((with_reducible refine gate_callee (f := 17) rfl ?_); refine gl (some 400) Try.func17 #[.int .i64 t363, .agg #[.int .i64 t364, .bool t365, .int .i64 t366], .agg #[.int .i64 t367, .bool t368, .int .i64 t369], .int .i64 t372] ?_; (with_reducible refine (impl_CountMeetings.calls kj73 t363 t364 t365 t366 t367 t368 t369 t372 t404 true _ A149.out).mono ?_); rintro e w173 ⟨rfl, hb⟩; refine ⟨_, rfl, ?_⟩; replace BK335 := nk BK335 hb; replace BK354 := nk BK354 hb; replace BK370 := nk BK370 hb; replace BK371 := nk BK371 hb; replace BK386 := nk BK386 hb; replace BK387 := nk BK387 hb; replace HB := bs hb; (try clear hb)))
                              go_ret
                              exact ⟨rs, bw⟩
                           ·replace c152 := Bool.eq_false_iff.mpr c152
                            subst c152
                            rw [if_neg (show ¬ (false = true) by decide)] at H
                            obtain rfl := Option.some.inj H
                            have hnb174 := NB370_335.out
                            have hnc174 := NB335_370.out
                            have hnb175 := NB370_354.out
                            have hnc175 := NB354_370.out
                            have hnb176 := NB370_371.out
                            have hnc176 := NB371_370.out
                            have hnb177 := NB370_386.out
                            have hnc177 := NB386_370.out
                            have hnb178 := NB370_387.out
                            have hnc178 := NB387_370.out
                            have hcz179_0 : wc.cell? ⟨gb370, 0, none⟩ = some (.int .i64 t364) := ec BK370
                            have hcz179_1 : wc.cell? ⟨gb370, 1, none⟩ = some (.bool t365) := ec BK370
                            have hcz179_2 : wc.cell? ⟨gb370, 2, none⟩ = some (.int .i64 t366) := ec BK370
                            have hfz179_0 := blk_frozen BK370.out 0
                            have hfz179_1 := blk_frozen BK370.out 1
                            have hfz179_2 := blk_frozen BK370.out 2
                            go_wp2_with (first | ((with_reducible refine gate_callee (f := 6) rfl ?_); refine gl (some 345) Try.func6 #[.int .i64 t363, .agg #[.int .i64 t364, .bool t365, .int .i64 t366], .int .i64 t372] ?_; (with_reducible refine (impl_SignalAt.calls t363 t364 t365 t366 t372 t397 true _ A138.out).mono ?_); rintro e w180 ⟨rfl, hb⟩; refine ⟨_, rfl, ?_⟩; replace BK335 := nk BK335 hb; replace BK354 := nk BK354 hb; replace BK370 := nk BK370 hb; replace BK371 := nk BK371 hb; replace BK386 := nk BK386 hb; replace BK387 := nk BK387 hb; replace HB := bs hb; (try clear hb); have hnb181 := NB371_335.out; have hnc181 := NB335_371.out; have hnb182 := NB371_354.out; have hnc182 := NB354_371.out; have hnb183 := NB371_386.out; have hnc183 := NB386_371.out; have hnb184 := NB371_387.out; have hnc184 := NB387_371.out; have hcz185_0 := bc BK371 0 (.int .i64 t367); have hcz185_1 := bc BK371 1 (.bool t368); have hcz185_2 := bc BK371 2 (.int .i64 t369); have hfz185_0 := blk_frozen BK371.out 0; have hfz185_1 := blk_frozen BK371.out 1; have hfz185_2 := blk_frozen BK371.out 2) | ((with_reducible refine gate_callee (f := 6) rfl ?_); refine gl (some 352) Try.func6 #[.int .i64 t363, .agg #[.int .i64 t367, .bool t368, .int .i64 t369], .int .i64 t372] ?_; (with_reducible refine (impl_SignalAt.calls t363 t367 t368 t369 t372 t399 true _ A139.out).mono ?_); rintro e w186 ⟨rfl, hb⟩; refine ⟨_, rfl, ?_⟩; replace BK335 := nk BK335 hb; replace BK354 := nk BK354 hb; replace BK370 := nk BK370 hb; replace BK371 := nk BK371 hb; replace BK386 := nk BK386 hb; replace BK387 := nk BK387 hb; replace HB := bs hb; (try clear hb); have hcz187_0 := bc BK371 0 (.int .i64 t367); have hcz187_1 := bc BK371 1 (.bool t368); have hcz187_2 := bc BK371 2 (.int .i64 t369); have hfz187_0 := blk_frozen BK371.out 0; have hfz187_1 := blk_frozen BK371.out 1; have hfz187_2 := blk_frozen BK371.out 2; have hcz188_0 := bc BK370 0 (.int .i64 t364); have hcz188_1 := bc BK370 1 (.bool t365); have hcz188_2 := bc BK370 2 (.int .i64 t366); have hfz188_0 := blk_frozen BK370.out 0; have hfz188_1 := blk_frozen BK370.out 1; have hfz188_2 := blk_frozen BK370.out 2) | ((with_reducible refine gate_callee (f := 14) rfl ?_); refine gl (some 359) Try.func14 #[.int .i64 t363, .agg #[.int .i64 t367, .bool t368, .int .i64 t369], .agg #[.int .i64 t364, .bool t365, .int .i64 t366]] ?_; (with_reducible refine (impl_FirstMeeting.calls kj73 t363 t367 t368 t369 t364 t365 t366 t401 t402 true _ A140.out).mono ?_); rintro e w189 ⟨rfl, hb⟩; refine ⟨_, rfl, ?_⟩; replace BK335 := nk BK335 hb; replace BK354 := nk BK354 hb; replace BK370 := nk BK370 hb; replace BK371 := nk BK371 hb; replace BK386 := nk BK386 hb; replace BK387 := nk BK387 hb; replace HB := bs hb; (try clear hb); have hcz190_0 := bc BK370 0 (.int .i64 t364); have hcz190_1 := bc BK370 1 (.bool t365); have hcz190_2 := bc BK370 2 (.int .i64 t366); have hfz190_0 := blk_frozen BK370.out 0; have hfz190_1 := blk_frozen BK370.out 1; have hfz190_2 := blk_frozen BK370.out 2; have hcz191_0 := bc BK371 0 (.int .i64 t367); have hcz191_1 := bc BK371 1 (.bool t368); have hcz191_2 := bc BK371 2 (.int .i64 t369); have hfz191_0 := blk_frozen BK371.out 0; have hfz191_1 := blk_frozen BK371.out 1; have hfz191_2 := blk_frozen BK371.out 2) | ((with_reducible refine gate_callee (f := 17) rfl ?_); refine gl (some 400) Try.func17 #[.int .i64 t363, .agg #[.int .i64 t364, .bool t365, .int .i64 t366], .agg #[.int .i64 t367, .bool t368, .int .i64 t369], .int .i64 t372] ?_; (with_reducible refine (impl_CountMeetings.calls kj73 t363 t364 t365 t366 t367 t368 t369 t372 t404 true _ A149.out).mono ?_); rintro e w192 ⟨rfl, hb⟩; refine ⟨_, rfl, ?_⟩; replace BK335 := nk BK335 hb; replace BK354 := nk BK354 hb; replace BK370 := nk BK370 hb; replace BK371 := nk BK371 hb; replace BK386 := nk BK386 hb; replace BK387 := nk BK387 hb; replace HB := bs hb; (try clear hb)))
                            go_ret
                            exact ⟨rs, bw⟩
                          ·rw [if_neg c151] at H
                           have c151b0 : (t404 == 1) = false := beq_eq_false_iff_ne.mpr c151
                           have c151b1 : (t404 != 1) = true := bne_iff_ne.mpr c151
                           exact absurd (Option.some.inj H) (by rw [HRT.out]; decide)
                         ·replace c150 := Bool.eq_false_iff.mpr c150
                          subst c150
                          rw [if_neg (show ¬ (false = true) by decide)] at H
                          exact absurd (Option.some.inj H) (by rw [HRT.out]; decide)
                        ·rw [if_neg c148] at H
                         have c148b0 : decide (t372 ≤ 1000) = false := decide_eq_false c148
                         clear c148
                         by_cases c193 : t389 = true
                         ·subst c193
                          rw [if_pos rfl] at H
                          by_cases c194 : t388 < 0
                          ·rw [if_pos c194] at H
                           have c194b0 : decide (t388 < 0) = true := decide_eq_true c194
                           clear c194
                           exact absurd (Option.some.inj H) (by rw [HRT.out]; decide)
                          ·rw [if_neg c194] at H
                           have c194b0 : decide (t388 < 0) = false := decide_eq_false c194
                           clear c194
                           by_cases c195 : t388 > (wrap64 (t385 + 1))
                           ·rw [if_pos c195] at H
                            have c195b0 : decide ((wrap64 (t385 + 1)) < t388) = true := decide_eq_true c195
                            clear c195
                            exact absurd (Option.some.inj H) (by rw [HRT.out]; decide)
                           ·rw [if_neg c195] at H
                            have c195b0 : decide ((wrap64 (t385 + 1)) < t388) = false := decide_eq_false c195
                            clear c195
                            obtain rfl := Option.some.inj H
                            have hnb196 := NB370_335.out
                            have hnc196 := NB335_370.out
                            have hnb197 := NB370_354.out
                            have hnc197 := NB354_370.out
                            have hnb198 := NB370_371.out
                            have hnc198 := NB371_370.out
                            have hnb199 := NB370_386.out
                            have hnc199 := NB386_370.out
                            have hnb200 := NB370_387.out
                            have hnc200 := NB387_370.out
                            have hcz201_0 : wc.cell? ⟨gb370, 0, none⟩ = some (.int .i64 t364) := ec BK370
                            have hcz201_1 : wc.cell? ⟨gb370, 1, none⟩ = some (.bool t365) := ec BK370
                            have hcz201_2 : wc.cell? ⟨gb370, 2, none⟩ = some (.int .i64 t366) := ec BK370
                            have hfz201_0 := blk_frozen BK370.out 0
                            have hfz201_1 := blk_frozen BK370.out 1
                            have hfz201_2 := blk_frozen BK370.out 2
                            go_wp2_with (first | ((with_reducible refine gate_callee (f := 6) rfl ?_); refine gl (some 345) Try.func6 #[.int .i64 t363, .agg #[.int .i64 t364, .bool t365, .int .i64 t366], .int .i64 t372] ?_; (with_reducible refine (impl_SignalAt.calls t363 t364 t365 t366 t372 t397 true _ A138.out).mono ?_); rintro e w202 ⟨rfl, hb⟩; refine ⟨_, rfl, ?_⟩; replace BK335 := nk BK335 hb; replace BK354 := nk BK354 hb; replace BK370 := nk BK370 hb; replace BK371 := nk BK371 hb; replace BK386 := nk BK386 hb; replace BK387 := nk BK387 hb; replace HB := bs hb; (try clear hb); have hnb203 := NB371_335.out; have hnc203 := NB335_371.out; have hnb204 := NB371_354.out; have hnc204 := NB354_371.out; have hnb205 := NB371_386.out; have hnc205 := NB386_371.out; have hnb206 := NB371_387.out; have hnc206 := NB387_371.out; have hcz207_0 := bc BK371 0 (.int .i64 t367); have hcz207_1 := bc BK371 1 (.bool t368); have hcz207_2 := bc BK371 2 (.int .i64 t369); have hfz207_0 := blk_frozen BK371.out 0; have hfz207_1 := blk_frozen BK371.out 1; have hfz207_2 := blk_frozen BK371.out 2) | ((with_reducible refine gate_callee (f := 6) rfl ?_); refine gl (some 352) Try.func6 #[.int .i64 t363, .agg #[.int .i64 t367, .bool t368, .int .i64 t369], .int .i64 t372] ?_; (with_reducible refine (impl_SignalAt.calls t363 t367 t368 t369 t372 t399 true _ A139.out).mono ?_); rintro e w208 ⟨rfl, hb⟩; refine ⟨_, rfl, ?_⟩; replace BK335 := nk BK335 hb; replace BK354 := nk BK354 hb; replace BK370 := nk BK370 hb; replace BK371 := nk BK371 hb; replace BK386 := nk BK386 hb; replace BK387 := nk BK387 hb; replace HB := bs hb; (try clear hb); have hcz209_0 := bc BK371 0 (.int .i64 t367); have hcz209_1 := bc BK371 1 (.bool t368); have hcz209_2 := bc BK371 2 (.int .i64 t369); have hfz209_0 := blk_frozen BK371.out 0; have hfz209_1 := blk_frozen BK371.out 1; have hfz209_2 := blk_frozen BK371.out 2; have hcz210_0 := bc BK370 0 (.int .i64 t364); have hcz210_1 := bc BK370 1 (.bool t365); have hcz210_2 := bc BK370 2 (.int .i64 t366); have hfz210_0 := blk_frozen BK370.out 0; have hfz210_1 := blk_frozen BK370.out 1; have hfz210_2 := blk_frozen BK370.out 2) | ((with_reducible refine gate_callee (f := 14) rfl ?_); refine gl (some 359) Try.func14 #[.int .i64 t363, .agg #[.int .i64 t367, .bool t368, .int .i64 t369], .agg #[.int .i64 t364, .bool t365, .int .i64 t366]] ?_; (with_reducible refine (impl_FirstMeeting.calls kj73 t363 t367 t368 t369 t364 t365 t366 t401 t402 true _ A140.out).mono ?_); rintro e w211 ⟨rfl, hb⟩; refine ⟨_, rfl, ?_⟩; replace BK335 := nk BK335 hb; replace BK354 := nk BK354 hb; replace BK370 := nk BK370 hb; replace BK371 := nk BK371 hb; replace BK386 := nk BK386 hb; replace BK387 := nk BK387 hb; replace HB := bs hb; (try clear hb)))
                            go_ret
                            exact ⟨rs, bw⟩
                         ·replace c193 := Bool.eq_false_iff.mpr c193
                          subst c193
                          rw [if_neg (show ¬ (false = true) by decide)] at H
                          obtain rfl := Option.some.inj H
                          have hnb212 := NB370_335.out
                          have hnc212 := NB335_370.out
                          have hnb213 := NB370_354.out
                          have hnc213 := NB354_370.out
                          have hnb214 := NB370_371.out
                          have hnc214 := NB371_370.out
                          have hnb215 := NB370_386.out
                          have hnc215 := NB386_370.out
                          have hnb216 := NB370_387.out
                          have hnc216 := NB387_370.out
                          have hcz217_0 : wc.cell? ⟨gb370, 0, none⟩ = some (.int .i64 t364) := ec BK370
                          have hcz217_1 : wc.cell? ⟨gb370, 1, none⟩ = some (.bool t365) := ec BK370
                          have hcz217_2 : wc.cell? ⟨gb370, 2, none⟩ = some (.int .i64 t366) := ec BK370
                          have hfz217_0 := blk_frozen BK370.out 0
                          have hfz217_1 := blk_frozen BK370.out 1
                          have hfz217_2 := blk_frozen BK370.out 2
                          go_wp2_with (first | ((with_reducible refine gate_callee (f := 6) rfl ?_); refine gl (some 345) Try.func6 #[.int .i64 t363, .agg #[.int .i64 t364, .bool t365, .int .i64 t366], .int .i64 t372] ?_; (with_reducible refine (impl_SignalAt.calls t363 t364 t365 t366 t372 t397 true _ A138.out).mono ?_); rintro e w218 ⟨rfl, hb⟩; refine ⟨_, rfl, ?_⟩; replace BK335 := nk BK335 hb; replace BK354 := nk BK354 hb; replace BK370 := nk BK370 hb; replace BK371 := nk BK371 hb; replace BK386 := nk BK386 hb; replace BK387 := nk BK387 hb; replace HB := bs hb; (try clear hb); have hnb219 := NB371_335.out; have hnc219 := NB335_371.out; have hnb220 := NB371_354.out; have hnc220 := NB354_371.out; have hnb221 := NB371_386.out; have hnc221 := NB386_371.out; have hnb222 := NB371_387.out; have hnc222 := NB387_371.out; have hcz223_0 := bc BK371 0 (.int .i64 t367); have hcz223_1 := bc BK371 1 (.bool t368); have hcz223_2 := bc BK371 2 (.int .i64 t369); have hfz223_0 := blk_frozen BK371.out 0; have hfz223_1 := blk_frozen BK371.out 1; have hfz223_2 := blk_frozen BK371.out 2) | ((with_reducible refine gate_callee (f := 6) rfl ?_); refine gl (some 352) Try.func6 #[.int .i64 t363, .agg #[.int .i64 t367, .bool t368, .int .i64 t369], .int .i64 t372] ?_; (with_reducible refine (impl_SignalAt.calls t363 t367 t368 t369 t372 t399 true _ A139.out).mono ?_); rintro e w224 ⟨rfl, hb⟩; refine ⟨_, rfl, ?_⟩; replace BK335 := nk BK335 hb; replace BK354 := nk BK354 hb; replace BK370 := nk BK370 hb; replace BK371 := nk BK371 hb; replace BK386 := nk BK386 hb; replace BK387 := nk BK387 hb; replace HB := bs hb; (try clear hb); have hcz225_0 := bc BK371 0 (.int .i64 t367); have hcz225_1 := bc BK371 1 (.bool t368); have hcz225_2 := bc BK371 2 (.int .i64 t369); have hfz225_0 := blk_frozen BK371.out 0; have hfz225_1 := blk_frozen BK371.out 1; have hfz225_2 := blk_frozen BK371.out 2; have hcz226_0 := bc BK370 0 (.int .i64 t364); have hcz226_1 := bc BK370 1 (.bool t365); have hcz226_2 := bc BK370 2 (.int .i64 t366); have hfz226_0 := blk_frozen BK370.out 0; have hfz226_1 := blk_frozen BK370.out 1; have hfz226_2 := blk_frozen BK370.out 2) | ((with_reducible refine gate_callee (f := 14) rfl ?_); refine gl (some 359) Try.func14 #[.int .i64 t363, .agg #[.int .i64 t367, .bool t368, .int .i64 t369], .agg #[.int .i64 t364, .bool t365, .int .i64 t366]] ?_; (with_reducible refine (impl_FirstMeeting.calls kj73 t363 t367 t368 t369 t364 t365 t366 t401 t402 true _ A140.out).mono ?_); rintro e w227 ⟨rfl, hb⟩; refine ⟨_, rfl, ?_⟩; replace BK335 := nk BK335 hb; replace BK354 := nk BK354 hb; replace BK370 := nk BK370 hb; replace BK371 := nk BK371 hb; replace BK386 := nk BK386 hb; replace BK387 := nk BK387 hb; replace HB := bs hb; (try clear hb)))
                          go_ret
                          exact ⟨rs, bw⟩
                       ·rw [if_neg c147] at H
                        have c147b0 : (t402 == t373) = false := beq_eq_false_iff_ne.mpr c147
                        have c147b1 : (t402 != t373) = true := bne_iff_ne.mpr c147
                        exact absurd (Option.some.inj H) (by rw [HRT.out]; decide)
                      ·rw [if_neg c146] at H
                       have c146b0 : (t401 == t372) = false := beq_eq_false_iff_ne.mpr c146
                       have c146b1 : (t401 != t372) = true := bne_iff_ne.mpr c146
                       exact absurd (Option.some.inj H) (by rw [HRT.out]; decide)
                     ·replace c145 := Bool.eq_false_iff.mpr c145
                      subst c145
                      rw [if_neg (show ¬ (false = true) by decide)] at H
                      exact absurd (Option.some.inj H) (by rw [HRT.out]; decide)
                    ·rw [if_neg c144] at H
                     have c144b0 : (t399 == t373) = false := beq_eq_false_iff_ne.mpr c144
                     have c144b1 : (t399 != t373) = true := bne_iff_ne.mpr c144
                     exact absurd (Option.some.inj H) (by rw [HRT.out]; decide)
                   ·replace c143 := Bool.eq_false_iff.mpr c143
                    subst c143
                    rw [if_neg (show ¬ (false = true) by decide)] at H
                    exact absurd (Option.some.inj H) (by rw [HRT.out]; decide)
                  ·rw [if_neg c142] at H
                   have c142b0 : (t397 == t373) = false := beq_eq_false_iff_ne.mpr c142
                   have c142b1 : (t397 != t373) = true := bne_iff_ne.mpr c142
                   exact absurd (Option.some.inj H) (by rw [HRT.out]; decide)
                 ·replace c141 := Bool.eq_false_iff.mpr c141
                  subst c141
                  rw [if_neg (show ¬ (false = true) by decide)] at H
                  exact absurd (Option.some.inj H) (by rw [HRT.out]; decide)
                ·replace c137 := Bool.eq_false_iff.mpr c137
                 subst c137
                 rw [if_neg (show ¬ (false = true) by decide)] at H
                 by_cases c228 : t389 = true
                 ·subst c228
                  rw [if_pos rfl] at H
                  by_cases c229 : t388 < 0
                  ·rw [if_pos c229] at H
                   have c229b0 : decide (t388 < 0) = true := decide_eq_true c229
                   clear c229
                   exact absurd (Option.some.inj H) (by rw [HRT.out]; decide)
                  ·rw [if_neg c229] at H
                   have c229b0 : decide (t388 < 0) = false := decide_eq_false c229
                   clear c229
                   by_cases c230 : t388 > (wrap64 (t385 + 1))
                   ·rw [if_pos c230] at H
                    have c230b0 : decide ((wrap64 (t385 + 1)) < t388) = true := decide_eq_true c230
                    clear c230
                    exact absurd (Option.some.inj H) (by rw [HRT.out]; decide)
                   ·rw [if_neg c230] at H
                    have c230b0 : decide ((wrap64 (t385 + 1)) < t388) = false := decide_eq_false c230
                    clear c230
                    obtain rfl := Option.some.inj H
                    go_wp2
                    go_ret
                    exact ⟨rs, bw⟩
                 ·replace c228 := Bool.eq_false_iff.mpr c228
                  subst c228
                  rw [if_neg (show ¬ (false = true) by decide)] at H
                  obtain rfl := Option.some.inj H
                  go_wp2
                  go_ret
                  exact ⟨rs, bw⟩
             ·rw [if_neg c73] at H
              have c73b0 : (t388 == t390) = false := beq_eq_false_iff_ne.mpr c73
              have c73b1 : (t388 != t390) = true := bne_iff_ne.mpr c73
              exact absurd (Option.some.inj H) (by rw [HRT.out]; decide)
           ·rw [if_neg c71] at H
            have c71b0 : (t373 == t376) = false := beq_eq_false_iff_ne.mpr c71
            have c71b1 : (t373 != t376) = true := bne_iff_ne.mpr c71
            exact absurd (Option.some.inj H) (by rw [HRT.out]; decide)
          ·rw [if_neg c70] at H
           have c70b0 : (t372 == t375) = false := beq_eq_false_iff_ne.mpr c70
           have c70b1 : (t372 != t375) = true := bne_iff_ne.mpr c70
           exact absurd (Option.some.inj H) (by rw [HRT.out]; decide)
        ·replace c68 := Bool.eq_false_iff.mpr c68
         subst c68
         rw [if_neg (show ¬ (false = true) by decide)] at H
         exact absurd (Option.some.inj H) (by rw [HRT.out]; decide)

end Go.Proofs.Ytlhhbkdeginhoaa.PFnSignalsGo
