-- Laid by xprint, a program of this session that runs over the kit's print.
import Derived.Test.YtefihklpegcmpaaGreatDoorPFnSignalsReachOfAllx0
import Derived.Test.YtefihklpegcmpaaGreatDoorPFnSignalsReachOfAllx2
import Derived.Test.YtefihklpegcmpaaGreatDoorPFnSignalsReachOfAllx3
import Derived.Test.YtefihklpegcmpaaGreatDoorPFnSignalsReachOfAllx9
namespace Go.Proofs.YtefihklpegcmpaaGreatDoor.PFnSignalsReachOfAll
open Go.RowKit Go.Proofs.YtefihklpegcmpaaGreatDoorW.PrintWords Go.Proofs.YtefihklpegcmpaaGreatDoorW.PrintLast Go.Proofs.YtefihklpegcmpaaGreatDoorW.PrintMore Go.Proofs.YtefihklpegcmpaaGreatDoor.Sq
attribute [local go_sem] max2_int min2_int max_two min_two max_three min_three max_four min_four   -- for this text's walks alone
set_option linter.unusedVariables false
set_option linter.unusedSimpArgs false

/-! ### impl_MiddleMeeting: function 23 -/
def impl_MiddleMeeting.f (k : Nat) (a0 : Int) : Option (Int × Int × Bool) := (impl_in.f a0 2 100).bind fun t292 => (if t292 = true then ((impl_firstMeeting.f k a0 0 false 1 0 false 3 1).bind fun t295 => ((impl_Signal_place.f 0 false 1 a0 t295).bind fun t296 => (some (t295, t296, true)))) else (some (0, 0, false)))
theorem impl_MiddleMeeting.mono : ∀ a0 k, LeO (impl_MiddleMeeting.f k a0) (impl_MiddleMeeting.f (k + 1) a0) := by
  intro a0 k
  unfold impl_MiddleMeeting.f
  repeat' first
      | (with_reducible exact impl_firstMeeting.mono _ _ _ _ _ _ _ _ _)
      | (with_reducible exact LeO.refl _)
      | (with_reducible exact LeO.none _)
      | (with_reducible refine LeO.ite ?_ ?_)
      | (with_reducible refine LeO.bind ?_ (fun _ => ?_))
      | exact impl_firstMeeting.mono _ _ _ _ _ _ _ _ _
      | exact LeO.none _
      | refine LeO.ite ?_ ?_
      | refine LeO.bind ?_ (fun _ => ?_)
set_option maxHeartbeats 8000000 in
set_option maxRecDepth 100000 in
theorem impl_MiddleMeeting.calls (k : Nat) (a0 : Int) (r1 : Int) (r2 : Int) (r3 : Bool) (w : World) (h : impl_MiddleMeeting.f k a0 = some (r1, r2, r3)) :
  Calls Tryz.prog 23 #[.int .i64 a0] w fun e w' => e = .returned (.tuple #[.int .i64 r1, .int .i64 r2, .bool r3]) ∧ Below w.heap.size w w' := by
 have hu25 := Tryz.underlying25
 have HB := Aside0.mk (Below.refl w.heap.size w)
 unfold impl_MiddleMeeting.f at h
 have H := h
 clear h
 replace H := Option.bind_eq_some_iff.mp H
 obtain ⟨t292, A20, H⟩ := H
 (try dsimp only at H)
 have A2 := Aside0.mk A20
 clear A20
 by_cases c3 : t292 = true
 ·subst c3
  rw [if_pos rfl] at H
  replace H := Option.bind_eq_some_iff.mp H
  obtain ⟨t295, A40, H⟩ := H
  (try dsimp only at H)
  have A4 := Aside0.mk A40
  clear A40
  replace H := Option.bind_eq_some_iff.mp H
  obtain ⟨t296, A50, H⟩ := H
  (try dsimp only at H)
  have A5 := Aside0.mk A50
  clear A50
  simp only [Option.some.injEq, Prod.mk.injEq] at H
  obtain ⟨rfl, rfl, rfl⟩ := H
  go_enter Tryz.func23, Tryz.ntmps23
  go_wp2_with (first | ((with_reducible refine gate_callee (f := 44) rfl ?_); refine gl (some 9) Tryz.func44 #[.int .i64 a0, .int .i64 2, .int .i64 100] ?_; (with_reducible refine (impl_in.calls a0 2 100 true _ A2.out).mono ?_); rintro e w' ⟨rfl, ⟨nd, rfl⟩⟩; refine ⟨_, rfl, ?_⟩) | ((with_reducible refine gate_dst (N := 5) rfl ?_); refine bx 5 25 #[.int .i64 0, .bool false, .int .i64 0] ?_; intro gb293 hg w6 hbox hb; have BK293 := hbox; have GW293 := gs hg; have GE293 := gs hg; replace HB := bs hb; clear hb hbox hg) | ((with_reducible refine gate_dst (N := 6) rfl ?_); refine bx 6 25 #[.int .i64 0, .bool false, .int .i64 0] ?_; intro gb294 hg w7 hbox hb; have BK294 := hbox; have GW294 := gs hg; have GE294 := gs hg; replace HB := bs hb; have NB293_294 := nl BK293 hg; have NB294_293 := ng BK293 hg; replace BK293 := nk BK293 hb; clear hb hbox hg; have hnb8 := NB293_294.out; have hnc8 := NB294_293.out; have hcz9_0 := bc BK293 0 (.int .i64 0); have hcz9_1 := bc BK293 1 (.bool false); have hcz9_2 := bc BK293 2 (.int .i64 0); have hfz9_0 := blk_frozen BK293.out 0; have hfz9_1 := blk_frozen BK293.out 1; have hfz9_2 := blk_frozen BK293.out 2; have hcz10_0 := bc BK294 0 (.int .i64 0); have hcz10_1 := bc BK294 1 (.bool false); have hcz10_2 := bc BK294 2 (.int .i64 0); have hfz10_0 := blk_frozen BK294.out 0; have hfz10_1 := blk_frozen BK294.out 1; have hfz10_2 := blk_frozen BK294.out 2) | ((with_reducible refine gate_callee (f := 53) rfl ?_); refine gl (some 16) Tryz.func53 #[.int .i64 a0, .agg #[.int .i64 0, .bool false, .int .i64 1], .agg #[.int .i64 0, .bool false, .int .i64 3], .int .i64 1] ?_; (with_reducible refine (impl_firstMeeting.calls k a0 0 false 1 0 false 3 1 t295 _ A4.out).mono ?_); rintro e w11 ⟨rfl, hb⟩; refine ⟨_, rfl, ?_⟩; replace BK293 := Aside0.mk (blk_below (g := gb293) (o := .cells #[.int .i64 0, .bool false, .int .i64 1] 25 (0, 0)) (by (with_reducible repeat (first | refine blk_drewN ?_ _ | refine blk_drew ?_ | refine blk_alloc ?_ _)); refine blk_far ?_ NB293_294.out _; (with_reducible repeat (first | refine blk_drewN ?_ _ | refine blk_drew ?_ | refine blk_alloc ?_ _)); refine blk_far ?_ NB293_294.out _; (with_reducible repeat (first | refine blk_drewN ?_ _ | refine blk_drew ?_ | refine blk_alloc ?_ _)); refine blk_far ?_ NB293_294.out _; (with_reducible repeat (first | refine blk_drewN ?_ _ | refine blk_drew ?_ | refine blk_alloc ?_ _)); refine blk_put (cs := #[.int .i64 0, .bool false, .int .i64 0]) ?_ 2 _ rfl; (with_reducible repeat (first | refine blk_drewN ?_ _ | refine blk_drew ?_ | refine blk_alloc ?_ _)); refine blk_put (cs := #[.int .i64 0, .bool false, .int .i64 0]) ?_ 1 _ rfl; (with_reducible repeat (first | refine blk_drewN ?_ _ | refine blk_drew ?_ | refine blk_alloc ?_ _)); refine blk_put (cs := #[.int .i64 0, .bool false, .int .i64 0]) ?_ 0 _ rfl; (with_reducible repeat (first | refine blk_drewN ?_ _ | refine blk_drew ?_ | refine blk_alloc ?_ _)); exact BK293.out) hb); replace BK294 := Aside0.mk (blk_below (g := gb294) (o := .cells #[.int .i64 0, .bool false, .int .i64 3] 25 (0, 0)) (by (with_reducible repeat (first | refine blk_drewN ?_ _ | refine blk_drew ?_ | refine blk_alloc ?_ _)); refine blk_put (cs := #[.int .i64 0, .bool false, .int .i64 0]) ?_ 2 _ rfl; (with_reducible repeat (first | refine blk_drewN ?_ _ | refine blk_drew ?_ | refine blk_alloc ?_ _)); refine blk_put (cs := #[.int .i64 0, .bool false, .int .i64 0]) ?_ 1 _ rfl; (with_reducible repeat (first | refine blk_drewN ?_ _ | refine blk_drew ?_ | refine blk_alloc ?_ _)); refine blk_put (cs := #[.int .i64 0, .bool false, .int .i64 0]) ?_ 0 _ rfl; (with_reducible repeat (first | refine blk_drewN ?_ _ | refine blk_drew ?_ | refine blk_alloc ?_ _)); refine blk_far ?_ NB294_293.out _; (with_reducible repeat (first | refine blk_drewN ?_ _ | refine blk_drew ?_ | refine blk_alloc ?_ _)); refine blk_far ?_ NB294_293.out _; (with_reducible repeat (first | refine blk_drewN ?_ _ | refine blk_drew ?_ | refine blk_alloc ?_ _)); refine blk_far ?_ NB294_293.out _; (with_reducible repeat (first | refine blk_drewN ?_ _ | refine blk_drew ?_ | refine blk_alloc ?_ _)); exact BK294.out) hb); replace HB := bs hb; (try clear hb); have hcz12_0 := bc BK293 0 (.int .i64 0); have hcz12_1 := bc BK293 1 (.bool false); have hcz12_2 := bc BK293 2 (.int .i64 1); have hfz12_0 := blk_frozen BK293.out 0; have hfz12_1 := blk_frozen BK293.out 1; have hfz12_2 := blk_frozen BK293.out 2) | ((with_reducible refine gate_callee (f := 54) rfl ?_); refine gl (some 21) Tryz.func54 #[.agg #[.int .i64 0, .bool false, .int .i64 1], .int .i64 a0, .int .i64 t295] ?_; (with_reducible refine (impl_Signal_place.calls 0 false 1 a0 t295 t296 _ A5.out).mono ?_); rintro e w13 ⟨rfl, hb⟩; refine ⟨_, rfl, ?_⟩; replace HB := bs hb; (try clear hb)))
  go_ret3
  exact ⟨rs, bw⟩
 ·replace c3 := Bool.eq_false_iff.mpr c3
  subst c3
  rw [if_neg (show ¬ (false = true) by decide)] at H
  simp only [Option.some.injEq, Prod.mk.injEq] at H
  obtain ⟨rfl, rfl, rfl⟩ := H
  go_enter Tryz.func23, Tryz.ntmps23
  go_wp2_with (first | ((with_reducible refine gate_callee (f := 44) rfl ?_); refine gl (some 9) Tryz.func44 #[.int .i64 a0, .int .i64 2, .int .i64 100] ?_; (with_reducible refine (impl_in.calls a0 2 100 false _ A2.out).mono ?_); rintro e w' ⟨rfl, ⟨nd, rfl⟩⟩; refine ⟨_, rfl, ?_⟩))
  go_ret3
  exact ⟨rs, bw⟩

/-! ### spec_siAt: function 56 -/
def spec_siAt.f (a0 : Int) (a1_0 : Int) (a1_1 : Bool) (a1_2 : Int) (a2 : Int) : Option (Int) := if a0 = 1 then (some 0) else (if a1_1 = true then (if a1_2 = 0 then (none) else (if (wrap64 (2 * (wrap64 (a0 - 1)))) = 0 then (none) else ((spec_l1Least.f (Int.tmod (wrap64 ((wrap64 ((wrap64 (2 * (wrap64 (a0 - 1)))) - a1_0)) + (wrap64 (Int.tdiv a2 a1_2)))) (wrap64 (2 * (wrap64 (a0 - 1))))) (wrap64 ((wrap64 (2 * (wrap64 (a0 - 1)))) - (Int.tmod (wrap64 ((wrap64 ((wrap64 (2 * (wrap64 (a0 - 1)))) - a1_0)) + (wrap64 (Int.tdiv a2 a1_2)))) (wrap64 (2 * (wrap64 (a0 - 1)))))))).bind fun t298 => (some t298)))) else (if a1_2 = 0 then (none) else (if (wrap64 (2 * (wrap64 (a0 - 1)))) = 0 then (none) else ((spec_l1Least.f (Int.tmod (wrap64 (a1_0 + (wrap64 (Int.tdiv a2 a1_2)))) (wrap64 (2 * (wrap64 (a0 - 1))))) (wrap64 ((wrap64 (2 * (wrap64 (a0 - 1)))) - (Int.tmod (wrap64 (a1_0 + (wrap64 (Int.tdiv a2 a1_2)))) (wrap64 (2 * (wrap64 (a0 - 1)))))))).bind fun t299 => (some t299)))))
set_option maxHeartbeats 8000000 in
set_option maxRecDepth 100000 in
theorem spec_siAt.calls (a0 : Int) (a1_0 : Int) (a1_1 : Bool) (a1_2 : Int) (a2 : Int) (r : Int) (w : World) (h : spec_siAt.f a0 a1_0 a1_1 a1_2 a2 = some r) :
  Calls Tryz.prog 56 #[.int .i64 a0, .agg #[.int .i64 a1_0, .bool a1_1, .int .i64 a1_2], .int .i64 a2] w fun e w' => e = .returned (.int .i64 r) ∧ Below w.heap.size w w' := by
 have hu25 := Tryz.underlying25
 have HB := Aside0.mk (Below.refl w.heap.size w)
 unfold spec_siAt.f at h
 have H := h
 clear h
 by_cases c4 : a0 = 1
 ·rw [if_pos c4] at H
  have c4b0 : (a0 == 1) = true := beq_iff_eq.mpr c4
  have c4b1 : (a0 != 1) = false := bne_eq_false_iff_eq.mpr c4
  clear c4
  obtain rfl := Option.some.inj H
  go_enter Tryz.func56, Tryz.ntmps56
  go_wp2_with (first | ((with_reducible refine gate_dst (N := 4) rfl ?_); refine bx 4 25 #[.int .i64 a1_0, .bool a1_1, .int .i64 a1_2] ?_; intro gb297 hg w5 hbox hb; have BK297 := hbox; have GW297 := gs hg; have GE297 := gs hg; replace HB := bs hb; clear hb hbox hg))
  go_ret
  exact ⟨rs, bw⟩
 ·rw [if_neg c4] at H
  have c4b0 : (a0 == 1) = false := beq_eq_false_iff_ne.mpr c4
  have c4b1 : (a0 != 1) = true := bne_iff_ne.mpr c4
  by_cases c6 : a1_1 = true
  ·subst c6
   rw [if_pos rfl] at H
   by_cases c7 : a1_2 = 0
   ·rw [if_pos c7] at H
    exact absurd H (by simp)
   ·rw [if_neg c7] at H
    have c7b0 : (a1_2 == 0) = false := beq_eq_false_iff_ne.mpr c7
    have c7b1 : (a1_2 != 0) = true := bne_iff_ne.mpr c7
    by_cases c8 : (wrap64 (2 * (wrap64 (a0 - 1)))) = 0
    ·rw [if_pos c8] at H
     exact absurd H (by simp)
    ·rw [if_neg c8] at H
     have c8b0 : ((wrap64 (2 * (wrap64 (a0 - 1)))) == 0) = false := beq_eq_false_iff_ne.mpr c8
     have c8b1 : ((wrap64 (2 * (wrap64 (a0 - 1)))) != 0) = true := bne_iff_ne.mpr c8
     replace H := Option.bind_eq_some_iff.mp H
     obtain ⟨t298, A90, H⟩ := H
     (try dsimp only at H)
     have A9 := Aside0.mk A90
     clear A90
     obtain rfl := Option.some.inj H
     go_enter Tryz.func56, Tryz.ntmps56
     go_wp2_with (first | ((with_reducible refine gate_dst (N := 4) rfl ?_); refine bx 4 25 #[.int .i64 a1_0, .bool true, .int .i64 a1_2] ?_; intro gb297 hg w10 hbox hb; have BK297 := hbox; have GW297 := gs hg; have GE297 := gs hg; replace HB := bs hb; clear hb hbox hg; have hcz11_0 := bc BK297 0 (.int .i64 a1_0); have hcz11_1 := bc BK297 1 (.bool true); have hcz11_2 := bc BK297 2 (.int .i64 a1_2); have hfz11_0 := blk_frozen BK297.out 0; have hfz11_1 := blk_frozen BK297.out 1; have hfz11_2 := blk_frozen BK297.out 2) | ((with_reducible refine gate_callee (f := 38) rfl ?_); refine gl (some 34) Tryz.func38 #[.int .i64 (Int.tmod (wrap64 ((wrap64 ((wrap64 (2 * (wrap64 (a0 - 1)))) - a1_0)) + (wrap64 (Int.tdiv a2 a1_2)))) (wrap64 (2 * (wrap64 (a0 - 1))))), .int .i64 (wrap64 ((wrap64 (2 * (wrap64 (a0 - 1)))) - (Int.tmod (wrap64 ((wrap64 ((wrap64 (2 * (wrap64 (a0 - 1)))) - a1_0)) + (wrap64 (Int.tdiv a2 a1_2)))) (wrap64 (2 * (wrap64 (a0 - 1)))))))] ?_; (with_reducible refine (spec_l1Least.calls (Int.tmod (wrap64 ((wrap64 ((wrap64 (2 * (wrap64 (a0 - 1)))) - a1_0)) + (wrap64 (Int.tdiv a2 a1_2)))) (wrap64 (2 * (wrap64 (a0 - 1))))) (wrap64 ((wrap64 (2 * (wrap64 (a0 - 1)))) - (Int.tmod (wrap64 ((wrap64 ((wrap64 (2 * (wrap64 (a0 - 1)))) - a1_0)) + (wrap64 (Int.tdiv a2 a1_2)))) (wrap64 (2 * (wrap64 (a0 - 1))))))) t298 _ A9.out).mono ?_); rintro e w' ⟨rfl, ⟨nd, rfl⟩⟩; refine ⟨_, rfl, ?_⟩))
     go_ret
     exact ⟨rs, bw⟩
  ·replace c6 := Bool.eq_false_iff.mpr c6
   subst c6
   rw [if_neg (show ¬ (false = true) by decide)] at H
   by_cases c12 : a1_2 = 0
   ·rw [if_pos c12] at H
    exact absurd H (by simp)
   ·rw [if_neg c12] at H
    have c12b0 : (a1_2 == 0) = false := beq_eq_false_iff_ne.mpr c12
    have c12b1 : (a1_2 != 0) = true := bne_iff_ne.mpr c12
    by_cases c13 : (wrap64 (2 * (wrap64 (a0 - 1)))) = 0
    ·rw [if_pos c13] at H
     exact absurd H (by simp)
    ·rw [if_neg c13] at H
     have c13b0 : ((wrap64 (2 * (wrap64 (a0 - 1)))) == 0) = false := beq_eq_false_iff_ne.mpr c13
     have c13b1 : ((wrap64 (2 * (wrap64 (a0 - 1)))) != 0) = true := bne_iff_ne.mpr c13
     replace H := Option.bind_eq_some_iff.mp H
     obtain ⟨t299, A140, H⟩ := H
     (try dsimp only at H)
     have A14 := Aside0.mk A140
     clear A140
     obtain rfl := Option.some.inj H
     go_enter Tryz.func56, Tryz.ntmps56
     go_wp2_with (first | ((with_reducible refine gate_dst (N := 4) rfl ?_); refine bx 4 25 #[.int .i64 a1_0, .bool false, .int .i64 a1_2] ?_; intro gb297 hg w15 hbox hb; have BK297 := hbox; have GW297 := gs hg; have GE297 := gs hg; replace HB := bs hb; clear hb hbox hg; have hcz16_0 := bc BK297 0 (.int .i64 a1_0); have hcz16_1 := bc BK297 1 (.bool false); have hcz16_2 := bc BK297 2 (.int .i64 a1_2); have hfz16_0 := blk_frozen BK297.out 0; have hfz16_1 := blk_frozen BK297.out 1; have hfz16_2 := blk_frozen BK297.out 2) | ((with_reducible refine gate_callee (f := 38) rfl ?_); refine gl (some 34) Tryz.func38 #[.int .i64 (Int.tmod (wrap64 (a1_0 + (wrap64 (Int.tdiv a2 a1_2)))) (wrap64 (2 * (wrap64 (a0 - 1))))), .int .i64 (wrap64 ((wrap64 (2 * (wrap64 (a0 - 1)))) - (Int.tmod (wrap64 (a1_0 + (wrap64 (Int.tdiv a2 a1_2)))) (wrap64 (2 * (wrap64 (a0 - 1)))))))] ?_; (with_reducible refine (spec_l1Least.calls (Int.tmod (wrap64 (a1_0 + (wrap64 (Int.tdiv a2 a1_2)))) (wrap64 (2 * (wrap64 (a0 - 1))))) (wrap64 ((wrap64 (2 * (wrap64 (a0 - 1)))) - (Int.tmod (wrap64 (a1_0 + (wrap64 (Int.tdiv a2 a1_2)))) (wrap64 (2 * (wrap64 (a0 - 1))))))) t299 _ A14.out).mono ?_); rintro e w' ⟨rfl, ⟨nd, rfl⟩⟩; refine ⟨_, rfl, ?_⟩))
     go_ret
     exact ⟨rs, bw⟩

/-! ### spec_siComes: function 72 -/
def spec_siComes.f (a0 : Int) (a1_0 : Int) (a1_1 : Bool) (a1_2 : Int) (a2 : Int) : Option (Bool) := if a2 = 0 then (some true) else (if a0 > 1 then (if a1_2 = 0 then (none) else (some ((Int.tmod a2 a1_2) == 0))) else (some false))
set_option maxHeartbeats 8000000 in
set_option maxRecDepth 100000 in
theorem spec_siComes.calls (a0 : Int) (a1_0 : Int) (a1_1 : Bool) (a1_2 : Int) (a2 : Int) (r : Bool) (w : World) (h : spec_siComes.f a0 a1_0 a1_1 a1_2 a2 = some r) :
  Calls Tryz.prog 72 #[.int .i64 a0, .agg #[.int .i64 a1_0, .bool a1_1, .int .i64 a1_2], .int .i64 a2] w fun e w' => e = .returned (.bool r) ∧ Below w.heap.size w w' := by
 have hu25 := Tryz.underlying25
 have HB := Aside0.mk (Below.refl w.heap.size w)
 unfold spec_siComes.f at h
 have H := h
 clear h
 by_cases c4 : a2 = 0
 ·rw [if_pos c4] at H
  have c4b0 : (a2 == 0) = true := beq_iff_eq.mpr c4
  have c4b1 : (a2 != 0) = false := bne_eq_false_iff_eq.mpr c4
  clear c4
  obtain rfl := Option.some.inj H
  go_enter Tryz.func72, Tryz.ntmps72
  go_wp2_with (first | ((with_reducible refine gate_dst (N := 4) rfl ?_); refine bx 4 25 #[.int .i64 a1_0, .bool a1_1, .int .i64 a1_2] ?_; intro gb300 hg w5 hbox hb; have BK300 := hbox; have GW300 := gs hg; have GE300 := gs hg; replace HB := bs hb; clear hb hbox hg))
  go_ret
  exact ⟨rs, bw⟩
 ·rw [if_neg c4] at H
  have c4b0 : (a2 == 0) = false := beq_eq_false_iff_ne.mpr c4
  have c4b1 : (a2 != 0) = true := bne_iff_ne.mpr c4
  by_cases c6 : a0 > 1
  ·rw [if_pos c6] at H
   have c6b0 : decide (1 < a0) = true := decide_eq_true c6
   clear c6
   by_cases c7 : a1_2 = 0
   ·rw [if_pos c7] at H
    exact absurd H (by simp)
   ·rw [if_neg c7] at H
    have c7b0 : (a1_2 == 0) = false := beq_eq_false_iff_ne.mpr c7
    have c7b1 : (a1_2 != 0) = true := bne_iff_ne.mpr c7
    obtain rfl := Option.some.inj H
    go_enter Tryz.func72, Tryz.ntmps72
    go_wp2_with (first | ((with_reducible refine gate_dst (N := 4) rfl ?_); refine bx 4 25 #[.int .i64 a1_0, .bool a1_1, .int .i64 a1_2] ?_; intro gb300 hg w8 hbox hb; have BK300 := hbox; have GW300 := gs hg; have GE300 := gs hg; replace HB := bs hb; clear hb hbox hg; have hcz9_0 := bc BK300 0 (.int .i64 a1_0); have hcz9_1 := bc BK300 1 (.bool a1_1); have hcz9_2 := bc BK300 2 (.int .i64 a1_2); have hfz9_0 := blk_frozen BK300.out 0; have hfz9_1 := blk_frozen BK300.out 1; have hfz9_2 := blk_frozen BK300.out 2))
    go_ret
    exact ⟨rs, bw⟩
  ·rw [if_neg c6] at H
   have c6b0 : decide (1 < a0) = false := decide_eq_false c6
   clear c6
   obtain rfl := Option.some.inj H
   go_enter Tryz.func72, Tryz.ntmps72
   go_wp2_with (first | ((with_reducible refine gate_dst (N := 4) rfl ?_); refine bx 4 25 #[.int .i64 a1_0, .bool a1_1, .int .i64 a1_2] ?_; intro gb300 hg w10 hbox hb; have BK300 := hbox; have GW300 := gs hg; have GE300 := gs hg; replace HB := bs hb; clear hb hbox hg))
   go_ret
   exact ⟨rs, bw⟩

/-! ### spec_siMeet: function 55 -/
def spec_siMeet.j0 : Nat → Int → Int → Bool → Int → Bool → Int → Int → Bool → Int → Option (Bool)
  | 0, _, _, _, _, _, _, _, _, _ => none
  | k + 1, x0, x3, x20, x302000, x302001, x302002, x303000, x303001, x303002 => if x20 = true then (some false) else ((spec_siAt.f x0 x302000 x302001 x302002 x3).bind fun t305 => ((spec_siAt.f x0 x303000 x303001 x303002 x3).bind fun t306 => (some (t305 == t306))))
def spec_siMeet.f (k : Nat) (a0 : Int) (a1_0 : Int) (a1_1 : Bool) (a1_2 : Int) (a2_0 : Int) (a2_1 : Bool) (a2_2 : Int) (a3 : Int) : Option (Bool) := (spec_siComes.f a0 a1_0 a1_1 a1_2 a3).bind fun t303 => (if t303 = true then (spec_siMeet.j0 k a0 a3 false a1_0 a1_1 a1_2 a2_0 a2_1 a2_2) else ((spec_siComes.f a0 a2_0 a2_1 a2_2 a3).bind fun t304 => (spec_siMeet.j0 k a0 a3 (!t304) a1_0 a1_1 a1_2 a2_0 a2_1 a2_2)))
theorem spec_siMeet.mono_l : ∀ k, (∀ y0 y1 y2 y3 y4 y5 y6 y7 y8, LeO (spec_siMeet.j0 k y0 y1 y2 y3 y4 y5 y6 y7 y8) (spec_siMeet.j0 (k + 1) y0 y1 y2 y3 y4 y5 y6 y7 y8))
  | 0 => fun _ _ _ _ _ _ _ _ _ r h => by simp [spec_siMeet.j0] at h
  | k + 1 => by
    have ih0 := spec_siMeet.mono_l k
    · intro y0 y1 y2 y3 y4 y5 y6 y7 y8
      unfold spec_siMeet.j0
      repeat' first
      | (with_reducible exact ih0 _ _ _ _ _ _ _ _ _)
      | (with_reducible exact LeO.refl _)
      | (with_reducible exact LeO.none _)
      | (with_reducible refine LeO.ite ?_ ?_)
      | (with_reducible refine LeO.bind ?_ (fun _ => ?_))
      | exact ih0 _ _ _ _ _ _ _ _ _
      | exact LeO.none _
      | refine LeO.ite ?_ ?_
      | refine LeO.bind ?_ (fun _ => ?_)
theorem spec_siMeet.mono : ∀ a0 a1 a2 a3 a4 a5 a6 a7 k, LeO (spec_siMeet.f k a0 a1 a2 a3 a4 a5 a6 a7) (spec_siMeet.f (k + 1) a0 a1 a2 a3 a4 a5 a6 a7) := by
  intro a0 a1 a2 a3 a4 a5 a6 a7 k
  have ih0 := spec_siMeet.mono_l k
  unfold spec_siMeet.f
  repeat' first
      | (with_reducible exact ih0 _ _ _ _ _ _ _ _ _)
      | (with_reducible exact LeO.refl _)
      | (with_reducible exact LeO.none _)
      | (with_reducible refine LeO.ite ?_ ?_)
      | (with_reducible refine LeO.bind ?_ (fun _ => ?_))
      | exact ih0 _ _ _ _ _ _ _ _ _
      | exact LeO.none _
      | refine LeO.ite ?_ ?_
      | refine LeO.bind ?_ (fun _ => ?_)
def spec_siMeet.T3 : Bool × List (List Nat × List Nat) := (true, [([], []), ([], []), ([], []), ([0, 1, 2], [0, 1, 2]), ([], []), ([], []), ([], []), ([4, 5, 6, 3], [4, 5, 6]), ([3, 7], [3, 7]), ([8, 7, 0, 1, 2, 3, 4, 5, 6, 7, 8], [8])])
def spec_siMeet.B3 : List Nat := [0, 0, 0, 7, 0, 0, 0, 127, 255, 511]
theorem spec_siMeet.tab3 : rtab .any (opsOf Tryz.f55 3) = spec_siMeet.T3 := by kernel_rfl
theorem spec_siMeet.bits3 : waitsOk spec_siMeet.T3.2 spec_siMeet.B3 = true := by kernel_rfl
set_option maxHeartbeats 8000000 in
set_option maxRecDepth 100000 in
theorem spec_siMeet.calls (k : Nat) (a0 : Int) (a1_0 : Int) (a1_1 : Bool) (a1_2 : Int) (a2_0 : Int) (a2_1 : Bool) (a2_2 : Int) (a3 : Int) (r : Bool) (w : World) (h : spec_siMeet.f k a0 a1_0 a1_1 a1_2 a2_0 a2_1 a2_2 a3 = some r) :
  Calls Tryz.prog 55 #[.int .i64 a0, .agg #[.int .i64 a1_0, .bool a1_1, .int .i64 a1_2], .agg #[.int .i64 a2_0, .bool a2_1, .int .i64 a2_2], .int .i64 a3] w fun e w' => e = .returned (.bool r) ∧ Below w.heap.size w w' := by
 have hu25 := Tryz.underlying25
 have HB := Aside0.mk (Below.refl w.heap.size w)
 unfold spec_siMeet.f at h
 have H := h
 clear h
 have HC5 := Aside0.mk H
 clear H
 go_enter Tryz.func55, Tryz.ntmps55
 go_upto_region 1 with (first | ((with_reducible refine gate_dst (N := 5) rfl ?_); refine bx 5 25 #[.int .i64 a1_0, .bool a1_1, .int .i64 a1_2] ?_; intro gb301 hg w6 hbox hb; have BK301 := hbox; have GW301 := gs hg; have GE301 := gs hg; replace HB := bs hb; clear hb hbox hg) | ((with_reducible refine gate_dst (N := 6) rfl ?_); refine bx 6 25 #[.int .i64 a2_0, .bool a2_1, .int .i64 a2_2] ?_; intro gb302 hg w7 hbox hb; have BK302 := hbox; have GW302 := gs hg; have GE302 := gs hg; replace HB := bs hb; have NB301_302 := nl BK301 hg; have NB302_301 := ng BK301 hg; replace BK301 := nk BK301 hb; clear hb hbox hg))
 (try simp only [Act.put, List.setIfInBounds_toArray, List.set_cons_zero, List.set_cons_succ])
 go_cut [20] (fun v20 wc => ∃ (kq : Nat) (x20_4 : Bool), v20 = .bool x20_4 ∧ Aside0 (spec_siMeet.j0 kq a0 a3 x20_4 a1_0 a1_1 a1_2 a2_0 a2_1 a2_2 = some r) ∧ Aside0 (kq ≤ k) ∧ Aside0 (wc.heap[gb301]? = some (.cells #[.int .i64 a1_0, .bool a1_1, .int .i64 a1_2] 25 (0, 0))) ∧ Aside0 (wc.heap[gb302]? = some (.cells #[.int .i64 a2_0, .bool a2_1, .int .i64 a2_2] 25 (0, 0))) ∧ Aside0 (Below w.heap.size w wc))
 case first =>
  have H := HC5.out
  clear HC5
  replace H := Option.bind_eq_some_iff.mp H
  obtain ⟨t303, A80, H⟩ := H
  (try dsimp only at H)
  have A8 := Aside0.mk A80
  clear A80
  by_cases c9 : t303 = true
  ·subst c9
   rw [if_pos rfl] at H
   have H' := Aside0.mk H
   clear H
   have hnb10 := NB301_302.out
   have hnc10 := NB302_301.out
   have hcz11_0 := bc BK301 0 (.int .i64 a1_0)
   have hcz11_1 := bc BK301 1 (.bool a1_1)
   have hcz11_2 := bc BK301 2 (.int .i64 a1_2)
   have hfz11_0 := blk_frozen BK301.out 0
   have hfz11_1 := blk_frozen BK301.out 1
   have hfz11_2 := blk_frozen BK301.out 2
   go_wp2_with (first | ((with_reducible refine gate_callee (f := 72) rfl ?_); refine gl (some 12) Tryz.func72 #[.int .i64 a0, .agg #[.int .i64 a1_0, .bool a1_1, .int .i64 a1_2], .int .i64 a3] ?_; (with_reducible refine (spec_siComes.calls a0 a1_0 a1_1 a1_2 a3 true _ A8.out).mono ?_); rintro e w12 ⟨rfl, hb⟩; refine ⟨_, rfl, ?_⟩; replace BK301 := nk BK301 hb; replace BK302 := nk BK302 hb; replace HB := bs hb; (try clear hb)))
   go_meet
   case rel => exact ⟨_, (false), (rs), H', ⟨by first | omega | exact Nat.le_refl _⟩, ⟨pk BK301⟩, ⟨pk BK302⟩, ⟨bw⟩⟩
  ·replace c9 := Bool.eq_false_iff.mpr c9
   subst c9
   rw [if_neg (show ¬ (false = true) by decide)] at H
   replace H := Option.bind_eq_some_iff.mp H
   obtain ⟨t304, A130, H⟩ := H
   (try dsimp only at H)
   have A13 := Aside0.mk A130
   clear A130
   have H' := Aside0.mk H
   clear H
   have hnb14 := NB301_302.out
   have hnc14 := NB302_301.out
   have hcz15_0 := bc BK301 0 (.int .i64 a1_0)
   have hcz15_1 := bc BK301 1 (.bool a1_1)
   have hcz15_2 := bc BK301 2 (.int .i64 a1_2)
   have hfz15_0 := blk_frozen BK301.out 0
   have hfz15_1 := blk_frozen BK301.out 1
   have hfz15_2 := blk_frozen BK301.out 2
   go_wp2_with (first | ((with_reducible refine gate_callee (f := 72) rfl ?_); refine gl (some 12) Tryz.func72 #[.int .i64 a0, .agg #[.int .i64 a1_0, .bool a1_1, .int .i64 a1_2], .int .i64 a3] ?_; (with_reducible refine (spec_siComes.calls a0 a1_0 a1_1 a1_2 a3 false _ A8.out).mono ?_); rintro e w16 ⟨rfl, hb⟩; refine ⟨_, rfl, ?_⟩; replace BK301 := nk BK301 hb; replace BK302 := nk BK302 hb; replace HB := bs hb; (try clear hb); have hcz17_0 := bc BK302 0 (.int .i64 a2_0); have hcz17_1 := bc BK302 1 (.bool a2_1); have hcz17_2 := bc BK302 2 (.int .i64 a2_2); have hfz17_0 := blk_frozen BK302.out 0; have hfz17_1 := blk_frozen BK302.out 1; have hfz17_2 := blk_frozen BK302.out 2) | (go_at_call 72; (with_reducible refine (spec_siComes.calls a0 a2_0 a2_1 a2_2 a3 t304 _ A13.out).mono ?_); rintro e w18 ⟨rfl, hb⟩; replace BK301 := nk BK301 hb; replace BK302 := nk BK302 hb; replace HB := bs hb; (try clear hb)))
   go_meet
   case rel => exact ⟨_, (!t304), (rs), H', ⟨by first | omega | exact Nat.le_refl _⟩, ⟨pk BK301⟩, ⟨pk BK302⟩, ⟨bw⟩⟩
 case rest =>
  clear HC5
  try clear c1
  try clear p2
  try clear c5
  try clear c7
  try clear c9
  try clear c10
  try clear c14
  try clear hcz11_0
  try clear hcz11_1
  try clear hcz11_2
  try clear hcz15_0
  try clear hcz15_1
  try clear hcz15_2
  try clear hcz17_0
  try clear hcz17_1
  try clear hcz17_2
  try clear hfz11_0
  try clear hfz11_1
  try clear hfz11_2
  try clear hfz15_0
  try clear hfz15_1
  try clear hfz15_2
  try clear hfz17_0
  try clear hfz17_1
  try clear hfz17_2
  obtain ⟨kq, x20_4, rfl, HA, HJ4, BK301, BK302, HB⟩ := hcut
  cases kq with
  | zero => exact absurd HA.out (by simp [spec_siMeet.j0])
  | succ kj4 =>
   have H := HA.out
   clear HA
   simp only [spec_siMeet.j0] at H
   by_cases c19 : x20_4 = true
   ·subst c19
    rw [if_pos rfl] at H
    obtain rfl := Option.some.inj H
    go_wp2
    go_ret
    exact ⟨rs, bw⟩
   ·replace c19 := Bool.eq_false_iff.mpr c19
    subst c19
    rw [if_neg (show ¬ (false = true) by decide)] at H
    replace H := Option.bind_eq_some_iff.mp H
    obtain ⟨t305, A200, H⟩ := H
    (try dsimp only at H)
    have A20 := Aside0.mk A200
    clear A200
    replace H := Option.bind_eq_some_iff.mp H
    obtain ⟨t306, A210, H⟩ := H
    (try dsimp only at H)
    have A21 := Aside0.mk A210
    clear A210
    obtain rfl := Option.some.inj H
    try go_wp2
    replace BK301 := Aside0.mk (blk_drew BK301.out)
    replace BK302 := Aside0.mk (blk_drew BK302.out)
    replace HB := Aside0.mk (below_drew1 HB.out)
    refine start_ (n := 10) (S := fun w' => w'.cell? ⟨gb301, 0, none⟩ = some (.int .i64 a1_0) ∧ w'.cell? ⟨gb301, 1, none⟩ = some (.bool a1_1) ∧ w'.cell? ⟨gb301, 2, none⟩ = some (.int .i64 a1_2) ∧ w'.cell? ⟨gb302, 0, none⟩ = some (.int .i64 a2_0) ∧ w'.cell? ⟨gb302, 1, none⟩ = some (.bool a2_1) ∧ w'.cell? ⟨gb302, 2, none⟩ = some (.int .i64 a2_2)) (ds := []) (tb 10 0) (by kernel_rfl) rfl rfl ⟨ec BK301, ec BK301, ec BK301, ec BK302, ec BK302, ec BK302⟩ (fun hHeld => ?_); refine with_tabW spec_siMeet.tab3 spec_siMeet.bits3 (fun HT_ HW_ => ?_)
    generalize wc.drew = w22 at BK301 BK302 HB hHeld ⊢
    refine pu 0 (some 21) (tb 10 1) ?_
    refine pu 2 (some 23) (tb 10 5) ?_
    refine pu 4 (some 25) (tb 10 21) ?_
    refine pu 6 (some 27) (tb 10 85) ?_
    refine take_ (i := 1) (N := some 22) (v := ?_) (a' := ?_) (tb 10 87) rfl rfl (take_ofW HT_.out HW_.out (by kernel_rfl)) (fun _ _ _ h => h) (Or.inl ⟨by rfl, ?_⟩) hHeld ?_ ?_
    rotate_left
    ·rintro w' ⟨s0, s1, s2, s3, s4, s5⟩
     go_simp
     with_reducible rfl
    rotate_left
    ·simp only [Act.put, List.setIfInBounds_toArray, List.set_cons_zero, List.set_cons_succ, i64_w, i32_w]
     rfl
    refine take_ (i := 5) (N := some 26) (v := ?_) (a' := ?_) (tb 10 119) rfl rfl (take_ofW HT_.out HW_.out (by kernel_rfl)) (fun _ _ _ h => h) (Or.inl ⟨by rfl, ?_⟩) hHeld ?_ ?_
    rotate_left
    ·rintro w' ⟨s0, s1, s2, s3, s4, s5⟩
     go_simp
     with_reducible rfl
    rotate_left
    ·simp only [Act.put, List.setIfInBounds_toArray, List.set_cons_zero, List.set_cons_succ, i64_w, i32_w]
     rfl
    refine one_ (i := 3) (N := some 24) (tb 10 127) rfl rfl (one_of HT_.out (by kernel_rfl)) (by decide) (fun K hK => ?_)
    refine goes_ Tryz.func56 (by kernel_rfl) rfl #[.int .i64 a0, .agg #[.int .i64 a1_0, .bool a1_1, .int .i64 a1_2], .int .i64 a3] (by rfl) rfl rfl (by (try simp only [List.map_toArray, List.map_cons, List.map_nil]); first | done | rfl | (simp only [List.length_drop, List.length_take]; rfl)) ?_
    with_reducible refine (spec_siAt.calls a0 a1_0 a1_1 a1_2 a3 t305 _ A20.out).mono ?_
    rintro e w23 ⟨rfl, hb⟩
    refine ⟨_, rfl, ?_⟩
    replace BK301 := nk BK301 hb
    replace BK302 := nk BK302 hb
    replace HB := bs hb
    (try clear hb)
    refine hK.out _ _ ⟨ec BK301, ec BK301, ec BK301, ec BK302, ec BK302, ec BK302⟩ (fun hHeld => ?_)
    clear hK K
    refine nm (some 24) ?_
    refine one_ (i := 7) (N := some 28) (tb 10 255) rfl rfl (one_of HT_.out (by kernel_rfl)) (by decide) (fun K hK => ?_)
    refine goes_ Tryz.func56 (by kernel_rfl) rfl #[.int .i64 a0, .agg #[.int .i64 a2_0, .bool a2_1, .int .i64 a2_2], .int .i64 a3] (by rfl) rfl rfl (by (try simp only [List.map_toArray, List.map_cons, List.map_nil]); first | done | rfl | (simp only [List.length_drop, List.length_take]; rfl)) ?_
    with_reducible refine (spec_siAt.calls a0 a2_0 a2_1 a2_2 a3 t306 _ A21.out).mono ?_
    rintro e w24 ⟨rfl, hb⟩
    refine ⟨_, rfl, ?_⟩
    replace BK301 := nk BK301 hb
    replace BK302 := nk BK302 hb
    replace HB := bs hb
    (try clear hb)
    refine hK.out _ _ ⟨ec BK301, ec BK301, ec BK301, ec BK302, ec BK302, ec BK302⟩ (fun hHeld => ?_)
    clear hK K
    refine nm (some 28) ?_
    refine pu 8 (some 29) (tb 10 511) ?_
    refine pu 9 (some 8) (tb 10 1023) ?_
    refine done_ (done_of HT_.out (by kernel_rfl)) ?_
    try go_wp2
    go_ret
    exact ⟨rs, bw⟩

/-! ### spec_MiddleMeeting: function 24 -/
mutual
def spec_MiddleMeeting.j0 : Nat → Int → Bool → Option (Int × Int × Bool)
  | 0, _, _ => none
  | k + 1, x0, x14 => if x14 = true then (some (0, 0, false)) else (spec_MiddleMeeting.l0 k x0 1 0 false 1 0 false 3)
def spec_MiddleMeeting.l0 : Nat → Int → Int → Int → Bool → Int → Int → Bool → Int → Option (Int × Int × Bool)
  | 0, _, _, _, _, _, _, _, _ => none
  | k + 1, x0, x7, x309000, x309001, x309002, x310000, x310001, x310002 => if x7 ≤ 100000 then ((spec_siMeet.f k x0 x309000 x309001 x309002 x310000 x310001 x310002 x7).bind fun t310 => (if t310 = true then ((spec_siAt.f x0 x309000 x309001 x309002 x7).bind fun t311 => (some (x7, t311, true))) else (spec_MiddleMeeting.l0 k x0 (wrap64 (x7 + 1)) x309000 x309001 x309002 x310000 x310001 x310002))) else (some (0, 0, false))
end
def spec_MiddleMeeting.f (k : Nat) (a0 : Int) : Option (Int × Int × Bool) := (spec_siSoldiers.f a0).bind fun t307 => (if t307 = true then (spec_MiddleMeeting.j0 k a0 (a0 == 1)) else (spec_MiddleMeeting.j0 k a0 true))
theorem spec_MiddleMeeting.mono_l : ∀ k, (∀ y0 y1, LeO (spec_MiddleMeeting.j0 k y0 y1) (spec_MiddleMeeting.j0 (k + 1) y0 y1)) ∧ (∀ y0 y1 y2 y3 y4 y5 y6 y7, LeO (spec_MiddleMeeting.l0 k y0 y1 y2 y3 y4 y5 y6 y7) (spec_MiddleMeeting.l0 (k + 1) y0 y1 y2 y3 y4 y5 y6 y7))
  | 0 => ⟨fun _ _ r h => by simp [spec_MiddleMeeting.j0] at h, fun _ _ _ _ _ _ _ _ r h => by simp [spec_MiddleMeeting.l0] at h⟩
  | k + 1 => by
    obtain ⟨ih0, ih1⟩ := spec_MiddleMeeting.mono_l k
    refine ⟨?_, ?_⟩
    · intro y0 y1
      unfold spec_MiddleMeeting.j0
      repeat' first
      | (with_reducible exact ih0 _ _)
      | (with_reducible exact ih1 _ _ _ _ _ _ _ _)
      | (with_reducible exact spec_siMeet.mono _ _ _ _ _ _ _ _ _)
      | (with_reducible exact LeO.refl _)
      | (with_reducible exact LeO.none _)
      | (with_reducible refine LeO.ite ?_ ?_)
      | (with_reducible refine LeO.bind ?_ (fun _ => ?_))
      | exact ih0 _ _
      | exact ih1 _ _ _ _ _ _ _ _
      | exact spec_siMeet.mono _ _ _ _ _ _ _ _ _
      | exact LeO.none _
      | refine LeO.ite ?_ ?_
      | refine LeO.bind ?_ (fun _ => ?_)
    · intro y0 y1 y2 y3 y4 y5 y6 y7
      unfold spec_MiddleMeeting.l0
      repeat' first
      | (with_reducible exact ih0 _ _)
      | (with_reducible exact ih1 _ _ _ _ _ _ _ _)
      | (with_reducible exact spec_siMeet.mono _ _ _ _ _ _ _ _ _)
      | (with_reducible exact LeO.refl _)
      | (with_reducible exact LeO.none _)
      | (with_reducible refine LeO.ite ?_ ?_)
      | (with_reducible refine LeO.bind ?_ (fun _ => ?_))
      | exact ih0 _ _
      | exact ih1 _ _ _ _ _ _ _ _
      | exact spec_siMeet.mono _ _ _ _ _ _ _ _ _
      | exact LeO.none _
      | refine LeO.ite ?_ ?_
      | refine LeO.bind ?_ (fun _ => ?_)
theorem spec_MiddleMeeting.mono : ∀ a0 k, LeO (spec_MiddleMeeting.f k a0) (spec_MiddleMeeting.f (k + 1) a0) := by
  intro a0 k
  obtain ⟨ih0, ih1⟩ := spec_MiddleMeeting.mono_l k
  unfold spec_MiddleMeeting.f
  repeat' first
      | (with_reducible exact ih0 _ _)
      | (with_reducible exact ih1 _ _ _ _ _ _ _ _)
      | (with_reducible exact spec_siMeet.mono _ _ _ _ _ _ _ _ _)
      | (with_reducible exact LeO.refl _)
      | (with_reducible exact LeO.none _)
      | (with_reducible refine LeO.ite ?_ ?_)
      | (with_reducible refine LeO.bind ?_ (fun _ => ?_))
      | exact ih0 _ _
      | exact ih1 _ _ _ _ _ _ _ _
      | exact spec_siMeet.mono _ _ _ _ _ _ _ _ _
      | exact LeO.none _
      | refine LeO.ite ?_ ?_
      | refine LeO.bind ?_ (fun _ => ?_)
set_option maxHeartbeats 8000000 in
set_option maxRecDepth 100000 in
theorem spec_MiddleMeeting.calls (k : Nat) (a0 : Int) (r1 : Int) (r2 : Int) (r3 : Bool) (w : World) (h : spec_MiddleMeeting.f k a0 = some (r1, r2, r3)) :
  Calls Tryz.prog 24 #[.int .i64 a0] w fun e w' => e = .returned (.tuple #[.int .i64 r1, .int .i64 r2, .bool r3]) ∧ Below w.heap.size w w' := by
 have hu25 := Tryz.underlying25
 have HB := Aside0.mk (Below.refl w.heap.size w)
 unfold spec_MiddleMeeting.f at h
 have H := h
 clear h
 have HC2 := Aside0.mk H
 clear H
 go_enter Tryz.func24, Tryz.ntmps24
 go_upto_region 1 with (fail)
 go_cut [14] (fun v14 wc => ∃ (kq : Nat) (x14_1 : Bool), v14 = .bool x14_1 ∧ Aside0 (spec_MiddleMeeting.j0 kq a0 x14_1 = some (r1, r2, r3)) ∧ Aside0 (kq ≤ k) ∧ Aside0 (Below w.heap.size w wc))
 case first =>
  have H := HC2.out
  clear HC2
  replace H := Option.bind_eq_some_iff.mp H
  obtain ⟨t307, A30, H⟩ := H
  (try dsimp only at H)
  have A3 := Aside0.mk A30
  clear A30
  by_cases c4 : t307 = true
  ·subst c4
   rw [if_pos rfl] at H
   have H' := Aside0.mk H
   clear H
   go_wp2_with (first | ((with_reducible refine gate_callee (f := 33) rfl ?_); refine gl (some 9) Tryz.func33 #[.int .i64 a0] ?_; (with_reducible refine (spec_siSoldiers.calls a0 true _ A3.out).mono ?_); rintro e w' ⟨rfl, ⟨nd, rfl⟩⟩; refine ⟨_, rfl, ?_⟩))
   go_meet
   case rel => exact ⟨_, ((a0 == 1)), (rs), H', ⟨by first | omega | exact Nat.le_refl _⟩, ⟨bw⟩⟩
  ·replace c4 := Bool.eq_false_iff.mpr c4
   subst c4
   rw [if_neg (show ¬ (false = true) by decide)] at H
   have H' := Aside0.mk H
   clear H
   go_wp2_with (first | ((with_reducible refine gate_callee (f := 33) rfl ?_); refine gl (some 9) Tryz.func33 #[.int .i64 a0] ?_; (with_reducible refine (spec_siSoldiers.calls a0 false _ A3.out).mono ?_); rintro e w' ⟨rfl, ⟨nd, rfl⟩⟩; refine ⟨_, rfl, ?_⟩))
   go_meet
   case rel => exact ⟨_, (true), (rs), H', ⟨by first | omega | exact Nat.le_refl _⟩, ⟨bw⟩⟩
 case rest =>
  clear HC2
  try clear c2
  try clear p2
  try clear c3
  try clear c4
  obtain ⟨kq, x14_1, rfl, HA, HJ1, HB⟩ := hcut
  cases kq with
  | zero => exact absurd HA.out (by simp [spec_MiddleMeeting.j0])
  | succ kj1 =>
   have H := HA.out
   clear HA
   simp only [spec_MiddleMeeting.j0] at H
   by_cases c5 : x14_1 = true
   ·subst c5
    rw [if_pos rfl] at H
    simp only [Option.some.injEq, Prod.mk.injEq] at H
    obtain ⟨rfl, rfl, rfl⟩ := H
    go_wp2
    go_ret3
    exact ⟨rs, bw⟩
   ·replace c5 := Bool.eq_false_iff.mpr c5
    subst c5
    rw [if_neg (show ¬ (false = true) by decide)] at H
    have H' := Aside0.mk H
    clear H
    go_wp2_with (first | ((with_reducible refine gate_dst (N := 5) rfl ?_); refine bx 5 25 #[.int .i64 0, .bool false, .int .i64 0] ?_; intro gb308 hg w6 hbox hb; have BK308 := hbox; have GW308 := gs hg; have GE308 := gs hg; replace HB := bs hb; clear hb hbox hg) | ((with_reducible refine gate_dst (N := 6) rfl ?_); refine bx 6 25 #[.int .i64 0, .bool false, .int .i64 0] ?_; intro gb309 hg w7 hbox hb; have BK309 := hbox; have GW309 := gs hg; have GE309 := gs hg; replace HB := bs hb; have NB308_309 := nl BK308 hg; have NB309_308 := ng BK308 hg; replace BK308 := nk BK308 hb; clear hb hbox hg; have hnb8 := NB308_309.out; have hnc8 := NB309_308.out; have hcz9_0 := bc BK308 0 (.int .i64 0); have hcz9_1 := bc BK308 1 (.bool false); have hcz9_2 := bc BK308 2 (.int .i64 0); have hfz9_0 := blk_frozen BK308.out 0; have hfz9_1 := blk_frozen BK308.out 1; have hfz9_2 := blk_frozen BK308.out 2; have hcz10_0 := bc BK309 0 (.int .i64 0); have hcz10_1 := bc BK309 1 (.bool false); have hcz10_2 := bc BK309 2 (.int .i64 0); have hfz10_0 := blk_frozen BK309.out 0; have hfz10_1 := blk_frozen BK309.out 1; have hfz10_2 := blk_frozen BK309.out 2))
    go_loopg [7] kj1 (fun kq v7 w' => ∃ (x7_2 : Int), v7 = .int .i64 x7_2 ∧ Aside0 (spec_MiddleMeeting.l0 kq a0 x7_2 0 false 1 0 false 3 = some (r1, r2, r3)) ∧ Aside0 (kq ≤ kj1) ∧ Aside0 (w'.heap[gb308]? = some (.cells #[.int .i64 0, .bool false, .int .i64 1] 25 (0, 0))) ∧ Aside0 (w'.heap[gb309]? = some (.cells #[.int .i64 0, .bool false, .int .i64 3] 25 (0, 0))) ∧ Aside0 (Below w.heap.size w w'))
    case atStart => exact ⟨(1), (rs), H', ⟨Nat.le_refl _⟩, ⟨by (with_reducible repeat (first | refine blk_drewN ?_ _ | refine blk_drew ?_ | refine blk_alloc ?_ _)); refine blk_far ?_ NB308_309.out _; (with_reducible repeat (first | refine blk_drewN ?_ _ | refine blk_drew ?_ | refine blk_alloc ?_ _)); refine blk_far ?_ NB308_309.out _; (with_reducible repeat (first | refine blk_drewN ?_ _ | refine blk_drew ?_ | refine blk_alloc ?_ _)); refine blk_far ?_ NB308_309.out _; (with_reducible repeat (first | refine blk_drewN ?_ _ | refine blk_drew ?_ | refine blk_alloc ?_ _)); refine blk_put (cs := #[.int .i64 0, .bool false, .int .i64 0]) ?_ 2 _ rfl; (with_reducible repeat (first | refine blk_drewN ?_ _ | refine blk_drew ?_ | refine blk_alloc ?_ _)); refine blk_put (cs := #[.int .i64 0, .bool false, .int .i64 0]) ?_ 1 _ rfl; (with_reducible repeat (first | refine blk_drewN ?_ _ | refine blk_drew ?_ | refine blk_alloc ?_ _)); refine blk_put (cs := #[.int .i64 0, .bool false, .int .i64 0]) ?_ 0 _ rfl; (with_reducible repeat (first | refine blk_drewN ?_ _ | refine blk_drew ?_ | refine blk_alloc ?_ _)); exact BK308.out⟩, ⟨by (with_reducible repeat (first | refine blk_drewN ?_ _ | refine blk_drew ?_ | refine blk_alloc ?_ _)); refine blk_put (cs := #[.int .i64 0, .bool false, .int .i64 0]) ?_ 2 _ rfl; (with_reducible repeat (first | refine blk_drewN ?_ _ | refine blk_drew ?_ | refine blk_alloc ?_ _)); refine blk_put (cs := #[.int .i64 0, .bool false, .int .i64 0]) ?_ 1 _ rfl; (with_reducible repeat (first | refine blk_drewN ?_ _ | refine blk_drew ?_ | refine blk_alloc ?_ _)); refine blk_put (cs := #[.int .i64 0, .bool false, .int .i64 0]) ?_ 0 _ rfl; (with_reducible repeat (first | refine blk_drewN ?_ _ | refine blk_drew ?_ | refine blk_alloc ?_ _)); refine blk_far ?_ NB309_308.out _; (with_reducible repeat (first | refine blk_drewN ?_ _ | refine blk_drew ?_ | refine blk_alloc ?_ _)); refine blk_far ?_ NB309_308.out _; (with_reducible repeat (first | refine blk_drewN ?_ _ | refine blk_drew ?_ | refine blk_alloc ?_ _)); refine blk_far ?_ NB309_308.out _; (with_reducible repeat (first | refine blk_drewN ?_ _ | refine blk_drew ?_ | refine blk_alloc ?_ _)); exact BK309.out⟩, ⟨bw⟩⟩
    case round =>
     clear H'
     try clear c2
     try clear p2
     try clear c3
     try clear c4
     try clear c5
     try clear c8
     try clear hcz10_0
     try clear hcz10_1
     try clear hcz10_2
     try clear hcz9_0
     try clear hcz9_1
     try clear hcz9_2
     try clear hfz10_0
     try clear hfz10_1
     try clear hfz10_2
     try clear hfz9_0
     try clear hfz9_1
     try clear hfz9_2
     try clear p2
     obtain ⟨x7_2, rfl, HA, HK2, BK308, BK309, HB⟩ := hrel
     cases gk with
     | zero => exact absurd HA.out (by simp [spec_MiddleMeeting.l0])
     | succ k2 =>
      have H := HA.out
      clear HA
      simp only [spec_MiddleMeeting.l0] at H
      by_cases c11 : x7_2 ≤ 100000
      ·rw [if_pos c11] at H
       have c11b0 : decide (x7_2 ≤ 100000) = true := decide_eq_true c11
       clear c11
       replace H := Option.bind_eq_some_iff.mp H
       obtain ⟨t310, A120, H⟩ := H
       (try dsimp only at H)
       have A12 := Aside0.mk A120
       clear A120
       by_cases c13 : t310 = true
       ·subst c13
        rw [if_pos rfl] at H
        replace H := Option.bind_eq_some_iff.mp H
        obtain ⟨t311, A140, H⟩ := H
        (try dsimp only at H)
        have A14 := Aside0.mk A140
        clear A140
        simp only [Option.some.injEq, Prod.mk.injEq] at H
        obtain ⟨rfl, rfl, rfl⟩ := H
        have hnb15 := NB308_309.out
        have hnc15 := NB309_308.out
        have hcz16_0 : wr.cell? ⟨gb308, 0, none⟩ = some (.int .i64 0) := ec BK308
        have hcz16_1 : wr.cell? ⟨gb308, 1, none⟩ = some (.bool false) := ec BK308
        have hcz16_2 : wr.cell? ⟨gb308, 2, none⟩ = some (.int .i64 1) := ec BK308
        have hfz16_0 := blk_frozen BK308.out 0
        have hfz16_1 := blk_frozen BK308.out 1
        have hfz16_2 := blk_frozen BK308.out 2
        have hcz17_0 : wr.cell? ⟨gb309, 0, none⟩ = some (.int .i64 0) := ec BK309
        have hcz17_1 : wr.cell? ⟨gb309, 1, none⟩ = some (.bool false) := ec BK309
        have hcz17_2 : wr.cell? ⟨gb309, 2, none⟩ = some (.int .i64 3) := ec BK309
        have hfz17_0 := blk_frozen BK309.out 0
        have hfz17_1 := blk_frozen BK309.out 1
        have hfz17_2 := blk_frozen BK309.out 2
        go_wp2_with (first | ((with_reducible refine gate_callee (f := 55) rfl ?_); refine gl (some 25) Tryz.func55 #[.int .i64 a0, .agg #[.int .i64 0, .bool false, .int .i64 1], .agg #[.int .i64 0, .bool false, .int .i64 3], .int .i64 x7_2] ?_; (with_reducible refine (spec_siMeet.calls k2 a0 0 false 1 0 false 3 x7_2 true _ A12.out).mono ?_); rintro e w18 ⟨rfl, hb⟩; refine ⟨_, rfl, ?_⟩; replace BK308 := nk BK308 hb; replace HB := bs hb; (try clear hb); have hcz19_0 := bc BK308 0 (.int .i64 0); have hcz19_1 := bc BK308 1 (.bool false); have hcz19_2 := bc BK308 2 (.int .i64 1); have hfz19_0 := blk_frozen BK308.out 0; have hfz19_1 := blk_frozen BK308.out 1; have hfz19_2 := blk_frozen BK308.out 2) | ((with_reducible refine gate_callee (f := 56) rfl ?_); refine gl (some 30) Tryz.func56 #[.int .i64 a0, .agg #[.int .i64 0, .bool false, .int .i64 1], .int .i64 x7_2] ?_; (with_reducible refine (spec_siAt.calls a0 0 false 1 x7_2 t311 _ A14.out).mono ?_); rintro e w20 ⟨rfl, hb⟩; refine ⟨_, rfl, ?_⟩; replace HB := bs hb; (try clear hb)))
        go_ret3
        exact ⟨rs, bw⟩
       ·replace c13 := Bool.eq_false_iff.mpr c13
        subst c13
        rw [if_neg (show ¬ (false = true) by decide)] at H
        have H' := Aside0.mk H
        clear H
        have hnb21 := NB308_309.out
        have hnc21 := NB309_308.out
        have hcz22_0 : wr.cell? ⟨gb308, 0, none⟩ = some (.int .i64 0) := ec BK308
        have hcz22_1 : wr.cell? ⟨gb308, 1, none⟩ = some (.bool false) := ec BK308
        have hcz22_2 : wr.cell? ⟨gb308, 2, none⟩ = some (.int .i64 1) := ec BK308
        have hfz22_0 := blk_frozen BK308.out 0
        have hfz22_1 := blk_frozen BK308.out 1
        have hfz22_2 := blk_frozen BK308.out 2
        have hcz23_0 : wr.cell? ⟨gb309, 0, none⟩ = some (.int .i64 0) := ec BK309
        have hcz23_1 : wr.cell? ⟨gb309, 1, none⟩ = some (.bool false) := ec BK309
        have hcz23_2 : wr.cell? ⟨gb309, 2, none⟩ = some (.int .i64 3) := ec BK309
        have hfz23_0 := blk_frozen BK309.out 0
        have hfz23_1 := blk_frozen BK309.out 1
        have hfz23_2 := blk_frozen BK309.out 2
        go_wp2_with (first | ((with_reducible refine gate_callee (f := 55) rfl ?_); refine gl (some 25) Tryz.func55 #[.int .i64 a0, .agg #[.int .i64 0, .bool false, .int .i64 1], .agg #[.int .i64 0, .bool false, .int .i64 3], .int .i64 x7_2] ?_; (with_reducible refine (spec_siMeet.calls k2 a0 0 false 1 0 false 3 x7_2 false _ A12.out).mono ?_); rintro e w24 ⟨rfl, hb⟩; refine ⟨_, rfl, ?_⟩; replace BK308 := nk BK308 hb; replace BK309 := nk BK309 hb; replace HB := bs hb; (try clear hb)))
        go_roundg k2
        case measure => have := HJ1.out; have := HK2.out; omega
        case rel => exact ⟨(wrap64 (x7_2 + 1)), (rs), H', ⟨by have := HJ1.out; have := HK2.out; omega⟩, ⟨pk BK308⟩, ⟨pk BK309⟩, ⟨bw⟩⟩
      ·rw [if_neg c11] at H
       have c11b0 : decide (x7_2 ≤ 100000) = false := decide_eq_false c11
       clear c11
       simp only [Option.some.injEq, Prod.mk.injEq] at H
       obtain ⟨rfl, rfl, rfl⟩ := H
       go_wp2
       go_ret3
       exact ⟨rs, bw⟩

/-! ### strconv_Itoa: function 73 -/
def strconv_Itoa.f (a0 : Int) : Option ByteArray := if 0 ≤ a0 ∧ a0 < 100 then some ⟨(Lib.decDigits a0.toNat).toArray⟩ else none
theorem strconv_Itoa.calls (a0 : Int) (r : ByteArray) (w : World) (h : strconv_Itoa.f a0 = some r) :
  Calls Tryz.prog 73 #[.int .i64 a0] w fun e w' => e = .returned (.string r) ∧ Below w.heap.size w w' := by
 unfold strconv_Itoa.f at h
 split at h
 ·next hc =>
  obtain rfl := Option.some.inj h
  obtain ⟨i, rfl⟩ : ∃ i : Nat, a0 = i := ⟨a0.toNat, by omega⟩
  have c : Calls Tryz.prog 73 #[.int .i64 (i : Int)] w _ := Any.strconv_Itoa_small Tryz.lays171 i (by omega) w
  exact c.mono fun e w' ⟨h1, h2⟩ => ⟨by rw [h1, Int.toNat_natCast], h2 ▸ Below.refl _ _⟩
 ·cases h

end Go.Proofs.YtefihklpegcmpaaGreatDoor.PFnSignalsReachOfAll
