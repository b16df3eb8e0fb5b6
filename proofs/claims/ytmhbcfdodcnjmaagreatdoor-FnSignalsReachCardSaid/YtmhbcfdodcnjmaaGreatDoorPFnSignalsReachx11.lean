-- Laid by xprint, a program of this session that runs over the kit's print.
import Derived.Test.YtmhbcfdodcnjmaaGreatDoorPFnSignalsReachx0
import Derived.Test.YtmhbcfdodcnjmaaGreatDoorPFnSignalsReachx2
import Derived.Test.YtmhbcfdodcnjmaaGreatDoorPFnSignalsReachx3
import Derived.Test.YtmhbcfdodcnjmaaGreatDoorPFnSignalsReachx4
import Derived.Test.YtmhbcfdodcnjmaaGreatDoorPFnSignalsReachx10
namespace Go.Proofs.YtmhbcfdodcnjmaaGreatDoor.PFnSignalsReach
open Go.RowKit Go.Proofs.YtmhbcfdodcnjmaaGreatDoorW.PrintWords Go.Proofs.YtmhbcfdodcnjmaaGreatDoorW.PrintLast Go.Proofs.YtmhbcfdodcnjmaaGreatDoorW.PrintMore Go.Proofs.YtmhbcfdodcnjmaaGreatDoor.Sq
attribute [local go_sem] max2_int min2_int max_two min_two max_three min_three max_four min_four   -- for this text's walks alone
set_option linter.unusedVariables false
set_option linter.unusedSimpArgs false

/-! ### impl_MiddleMeeting: function 29 -/
def impl_MiddleMeeting.f (k : Nat) (a0 : Int) : Option (Int × Int × Bool) := (impl_in.f a0 2 100).bind fun t465 => (if t465 = true then ((impl_firstMeeting.f k a0 0 false 1 0 false 3 1).bind fun t468 => ((impl_Signal_place.f 0 false 1 a0 t468).bind fun t469 => (some (t468, t469, true)))) else (some (0, 0, false)))
theorem impl_MiddleMeeting.mono : ∀ a0 k, LeO (impl_MiddleMeeting.f k a0) (impl_MiddleMeeting.f (k + 1) a0) := by
  intro a0 k
  unfold impl_MiddleMeeting.f
  repeat' first
      | (with_reducible exact impl_firstMeeting.mono _ _ _ _ _ _ _ _ _)
      | (with_reducible exact LeO.refl _)
      | (with_reducible exact LeO.none _)
      | (with_reducible refine LeO.ite ?_ ?_)
      | (with_reducible refine LeO.bind ?_ (fun _ => ?_))
      | exact impl_firstMeeting.mono _ _ _ _ _ _ _ _ _
      | exact LeO.none _
      | refine LeO.ite ?_ ?_
      | refine LeO.bind ?_ (fun _ => ?_)
set_option maxHeartbeats 8000000 in
set_option maxRecDepth 100000 in
theorem impl_MiddleMeeting.calls (k : Nat) (a0 : Int) (r1 : Int) (r2 : Int) (r3 : Bool) (w : World) (h : impl_MiddleMeeting.f k a0 = some (r1, r2, r3)) :
  Calls Tryz.prog 29 #[.int .i64 a0] w fun e w' => e = .returned (.tuple #[.int .i64 r1, .int .i64 r2, .bool r3]) ∧ Below w.heap.size w w' := by
 have hu36 := Tryz.underlying36
 have HB := Aside0.mk (Below.refl w.heap.size w)
 unfold impl_MiddleMeeting.f at h
 have H := h
 clear h
 replace H := Option.bind_eq_some_iff.mp H
 obtain ⟨t465, A20, H⟩ := H
 (try dsimp only at H)
 have A2 := Aside0.mk A20
 clear A20
 by_cases c3 : t465 = true
 ·subst c3
  rw [if_pos rfl] at H
  replace H := Option.bind_eq_some_iff.mp H
  obtain ⟨t468, A40, H⟩ := H
  (try dsimp only at H)
  have A4 := Aside0.mk A40
  clear A40
  replace H := Option.bind_eq_some_iff.mp H
  obtain ⟨t469, A50, H⟩ := H
  (try dsimp only at H)
  have A5 := Aside0.mk A50
  clear A50
  simp only [Option.some.injEq, Prod.mk.injEq] at H
  obtain ⟨rfl, rfl, rfl⟩ := H
  go_enter Tryz.func29, Tryz.ntmps29
  go_wp2_with (first | ((with_reducible refine gate_callee (f := 56) rfl ?_); refine gl (some 9) Tryz.func56 #[.int .i64 a0, .int .i64 2, .int .i64 100] ?_; (with_reducible refine (impl_in.calls a0 2 100 true _ A2.out).mono ?_); rintro e w' ⟨rfl, ⟨nd, rfl⟩⟩; refine ⟨_, rfl, ?_⟩) | ((with_reducible refine gate_dst (N := 5) rfl ?_); refine bx 5 36 #[.int .i64 0, .bool false, .int .i64 0] ?_; intro gb466 hg w6 hbox hb; have BK466 := hbox; have GW466 := gs hg; have GE466 := gs hg; replace HB := bs hb; clear hb hbox hg) | ((with_reducible refine gate_dst (N := 6) rfl ?_); refine bx 6 36 #[.int .i64 0, .bool false, .int .i64 0] ?_; intro gb467 hg w7 hbox hb; have BK467 := hbox; have GW467 := gs hg; have GE467 := gs hg; replace HB := bs hb; have NB466_467 := nl BK466 hg; have NB467_466 := ng BK466 hg; replace BK466 := nk BK466 hb; clear hb hbox hg; have hnb8 := NB466_467.out; have hnc8 := NB467_466.out; have hcz9_0 := bc BK466 0 (.int .i64 0); have hcz9_1 := bc BK466 1 (.bool false); have hcz9_2 := bc BK466 2 (.int .i64 0); have hfz9_0 := blk_frozen BK466.out 0; have hfz9_1 := blk_frozen BK466.out 1; have hfz9_2 := blk_frozen BK466.out 2; have hcz10_0 := bc BK467 0 (.int .i64 0); have hcz10_1 := bc BK467 1 (.bool false); have hcz10_2 := bc BK467 2 (.int .i64 0); have hfz10_0 := blk_frozen BK467.out 0; have hfz10_1 := blk_frozen BK467.out 1; have hfz10_2 := blk_frozen BK467.out 2) | ((with_reducible refine gate_callee (f := 66) rfl ?_); refine gl (some 16) Tryz.func66 #[.int .i64 a0, .agg #[.int .i64 0, .bool false, .int .i64 1], .agg #[.int .i64 0, .bool false, .int .i64 3], .int .i64 1] ?_; (with_reducible refine (impl_firstMeeting.calls k a0 0 false 1 0 false 3 1 t468 _ A4.out).mono ?_); rintro e w11 ⟨rfl, hb⟩; refine ⟨_, rfl, ?_⟩; replace BK466 := Aside0.mk (blk_below (g := gb466) (o := .cells #[.int .i64 0, .bool false, .int .i64 1] 36 (0, 0)) (by (with_reducible repeat (first | refine blk_drewN ?_ _ | refine blk_drew ?_ | refine blk_alloc ?_ _)); refine blk_far ?_ NB466_467.out _; (with_reducible repeat (first | refine blk_drewN ?_ _ | refine blk_drew ?_ | refine blk_alloc ?_ _)); refine blk_far ?_ NB466_467.out _; (with_reducible repeat (first | refine blk_drewN ?_ _ | refine blk_drew ?_ | refine blk_alloc ?_ _)); refine blk_far ?_ NB466_467.out _; (with_reducible repeat (first | refine blk_drewN ?_ _ | refine blk_drew ?_ | refine blk_alloc ?_ _)); refine blk_put (cs := #[.int .i64 0, .bool false, .int .i64 0]) ?_ 2 _ rfl; (with_reducible repeat (first | refine blk_drewN ?_ _ | refine blk_drew ?_ | refine blk_alloc ?_ _)); refine blk_put (cs := #[.int .i64 0, .bool false, .int .i64 0]) ?_ 1 _ rfl; (with_reducible repeat (first | refine blk_drewN ?_ _ | refine blk_drew ?_ | refine blk_alloc ?_ _)); refine blk_put (cs := #[.int .i64 0, .bool false, .int .i64 0]) ?_ 0 _ rfl; (with_reducible repeat (first | refine blk_drewN ?_ _ | refine blk_drew ?_ | refine blk_alloc ?_ _)); exact BK466.out) hb); replace BK467 := Aside0.mk (blk_below (g := gb467) (o := .cells #[.int .i64 0, .bool false, .int .i64 3] 36 (0, 0)) (by (with_reducible repeat (first | refine blk_drewN ?_ _ | refine blk_drew ?_ | refine blk_alloc ?_ _)); refine blk_put (cs := #[.int .i64 0, .bool false, .int .i64 0]) ?_ 2 _ rfl; (with_reducible repeat (first | refine blk_drewN ?_ _ | refine blk_drew ?_ | refine blk_alloc ?_ _)); refine blk_put (cs := #[.int .i64 0, .bool false, .int .i64 0]) ?_ 1 _ rfl; (with_reducible repeat (first | refine blk_drewN ?_ _ | refine blk_drew ?_ | refine blk_alloc ?_ _)); refine blk_put (cs := #[.int .i64 0, .bool false, .int .i64 0]) ?_ 0 _ rfl; (with_reducible repeat (first | refine blk_drewN ?_ _ | refine blk_drew ?_ | refine blk_alloc ?_ _)); refine blk_far ?_ NB467_466.out _; (with_reducible repeat (first | refine blk_drewN ?_ _ | refine blk_drew ?_ | refine blk_alloc ?_ _)); refine blk_far ?_ NB467_466.out _; (with_reducible repeat (first | refine blk_drewN ?_ _ | refine blk_drew ?_ | refine blk_alloc ?_ _)); refine blk_far ?_ NB467_466.out _; (with_reducible repeat (first | refine blk_drewN ?_ _ | refine blk_drew ?_ | refine blk_alloc ?_ _)); exact BK467.out) hb); replace HB := bs hb; (try clear hb); have hcz12_0 := bc BK466 0 (.int .i64 0); have hcz12_1 := bc BK466 1 (.bool false); have hcz12_2 := bc BK466 2 (.int .i64 1); have hfz12_0 := blk_frozen BK466.out 0; have hfz12_1 := blk_frozen BK466.out 1; have hfz12_2 := blk_frozen BK466.out 2) | ((with_reducible refine gate_callee (f := 67) rfl ?_); refine gl (some 21) Tryz.func67 #[.agg #[.int .i64 0, .bool false, .int .i64 1], .int .i64 a0, .int .i64 t468] ?_; (with_reducible refine (impl_Signal_place.calls 0 false 1 a0 t468 t469 _ A5.out).mono ?_); rintro e w13 ⟨rfl, hb⟩; refine ⟨_, rfl, ?_⟩; replace HB := bs hb; (try clear hb)))
  go_ret3
  exact ⟨rs, bw⟩
 ·replace c3 := Bool.eq_false_iff.mpr c3
  subst c3
  rw [if_neg (show ¬ (false = true) by decide)] at H
  simp only [Option.some.injEq, Prod.mk.injEq] at H
  obtain ⟨rfl, rfl, rfl⟩ := H
  go_enter Tryz.func29, Tryz.ntmps29
  go_wp2_with (first | ((with_reducible refine gate_callee (f := 56) rfl ?_); refine gl (some 9) Tryz.func56 #[.int .i64 a0, .int .i64 2, .int .i64 100] ?_; (with_reducible refine (impl_in.calls a0 2 100 false _ A2.out).mono ?_); rintro e w' ⟨rfl, ⟨nd, rfl⟩⟩; refine ⟨_, rfl, ?_⟩))
  go_ret3
  exact ⟨rs, bw⟩

/-! ### spec_siAt: function 69 -/
def spec_siAt.f (a0 : Int) (a1_0 : Int) (a1_1 : Bool) (a1_2 : Int) (a2 : Int) : Option (Int) := if a0 = 1 then (some 0) else (if a1_1 = true then (if a1_2 = 0 then (none) else (if (wrap64 (2 * (wrap64 (a0 - 1)))) = 0 then (none) else ((spec_l1Least.f (Int.tmod (wrap64 ((wrap64 ((wrap64 (2 * (wrap64 (a0 - 1)))) - a1_0)) + (wrap64 (Int.tdiv a2 a1_2)))) (wrap64 (2 * (wrap64 (a0 - 1))))) (wrap64 ((wrap64 (2 * (wrap64 (a0 - 1)))) - (Int.tmod (wrap64 ((wrap64 ((wrap64 (2 * (wrap64 (a0 - 1)))) - a1_0)) + (wrap64 (Int.tdiv a2 a1_2)))) (wrap64 (2 * (wrap64 (a0 - 1)))))))).bind fun t471 => (some t471)))) else (if a1_2 = 0 then (none) else (if (wrap64 (2 * (wrap64 (a0 - 1)))) = 0 then (none) else ((spec_l1Least.f (Int.tmod (wrap64 (a1_0 + (wrap64 (Int.tdiv a2 a1_2)))) (wrap64 (2 * (wrap64 (a0 - 1))))) (wrap64 ((wrap64 (2 * (wrap64 (a0 - 1)))) - (Int.tmod (wrap64 (a1_0 + (wrap64 (Int.tdiv a2 a1_2)))) (wrap64 (2 * (wrap64 (a0 - 1)))))))).bind fun t472 => (some t472)))))
set_option maxHeartbeats 8000000 in
set_option maxRecDepth 100000 in
theorem spec_siAt.calls (a0 : Int) (a1_0 : Int) (a1_1 : Bool) (a1_2 : Int) (a2 : Int) (r : Int) (w : World) (h : spec_siAt.f a0 a1_0 a1_1 a1_2 a2 = some r) :
  Calls Tryz.prog 69 #[.int .i64 a0, .agg #[.int .i64 a1_0, .bool a1_1, .int .i64 a1_2], .int .i64 a2] w fun e w' => e = .returned (.int .i64 r) ∧ Below w.heap.size w w' := by
 have hu36 := Tryz.underlying36
 have HB := Aside0.mk (Below.refl w.heap.size w)
 unfold spec_siAt.f at h
 have H := h
 clear h
 by_cases c4 : a0 = 1
 ·rw [if_pos c4] at H
  have c4b0 : (a0 == 1) = true := beq_iff_eq.mpr c4
  have c4b1 : (a0 != 1) = false := bne_eq_false_iff_eq.mpr c4
  clear c4
  obtain rfl := Option.some.inj H
  go_enter Tryz.func69, Tryz.ntmps69
  go_wp2_with (first | ((with_reducible refine gate_dst (N := 4) rfl ?_); refine bx 4 36 #[.int .i64 a1_0, .bool a1_1, .int .i64 a1_2] ?_; intro gb470 hg w5 hbox hb; have BK470 := hbox; have GW470 := gs hg; have GE470 := gs hg; replace HB := bs hb; clear hb hbox hg))
  go_ret
  exact ⟨rs, bw⟩
 ·rw [if_neg c4] at H
  have c4b0 : (a0 == 1) = false := beq_eq_false_iff_ne.mpr c4
  have c4b1 : (a0 != 1) = true := bne_iff_ne.mpr c4
  by_cases c6 : a1_1 = true
  ·subst c6
   rw [if_pos rfl] at H
   by_cases c7 : a1_2 = 0
   ·rw [if_pos c7] at H
    exact absurd H (by simp)
   ·rw [if_neg c7] at H
    have c7b0 : (a1_2 == 0) = false := beq_eq_false_iff_ne.mpr c7
    have c7b1 : (a1_2 != 0) = true := bne_iff_ne.mpr c7
    by_cases c8 : (wrap64 (2 * (wrap64 (a0 - 1)))) = 0
    ·rw [if_pos c8] at H
     exact absurd H (by simp)
    ·rw [if_neg c8] at H
     have c8b0 : ((wrap64 (2 * (wrap64 (a0 - 1)))) == 0) = false := beq_eq_false_iff_ne.mpr c8
     have c8b1 : ((wrap64 (2 * (wrap64 (a0 - 1)))) != 0) = true := bne_iff_ne.mpr c8
     replace H := Option.bind_eq_some_iff.mp H
     obtain ⟨t471, A90, H⟩ := H
     (try dsimp only at H)
     have A9 := Aside0.mk A90
     clear A90
     obtain rfl := Option.some.inj H
     go_enter Tryz.func69, Tryz.ntmps69
     go_wp2_with (first | ((with_reducible refine gate_dst (N := 4) rfl ?_); refine bx 4 36 #[.int .i64 a1_0, .bool true, .int .i64 a1_2] ?_; intro gb470 hg w10 hbox hb; have BK470 := hbox; have GW470 := gs hg; have GE470 := gs hg; replace HB := bs hb; clear hb hbox hg; have hcz11_0 := bc BK470 0 (.int .i64 a1_0); have hcz11_1 := bc BK470 1 (.bool true); have hcz11_2 := bc BK470 2 (.int .i64 a1_2); have hfz11_0 := blk_frozen BK470.out 0; have hfz11_1 := blk_frozen BK470.out 1; have hfz11_2 := blk_frozen BK470.out 2) | ((with_reducible refine gate_callee (f := 48) rfl ?_); refine gl (some 34) Tryz.func48 #[.int .i64 (Int.tmod (wrap64 ((wrap64 ((wrap64 (2 * (wrap64 (a0 - 1)))) - a1_0)) + (wrap64 (Int.tdiv a2 a1_2)))) (wrap64 (2 * (wrap64 (a0 - 1))))), .int .i64 (wrap64 ((wrap64 (2 * (wrap64 (a0 - 1)))) - (Int.tmod (wrap64 ((wrap64 ((wrap64 (2 * (wrap64 (a0 - 1)))) - a1_0)) + (wrap64 (Int.tdiv a2 a1_2)))) (wrap64 (2 * (wrap64 (a0 - 1)))))))] ?_; (with_reducible refine (spec_l1Least.calls (Int.tmod (wrap64 ((wrap64 ((wrap64 (2 * (wrap64 (a0 - 1)))) - a1_0)) + (wrap64 (Int.tdiv a2 a1_2)))) (wrap64 (2 * (wrap64 (a0 - 1))))) (wrap64 ((wrap64 (2 * (wrap64 (a0 - 1)))) - (Int.tmod (wrap64 ((wrap64 ((wrap64 (2 * (wrap64 (a0 - 1)))) - a1_0)) + (wrap64 (Int.tdiv a2 a1_2)))) (wrap64 (2 * (wrap64 (a0 - 1))))))) t471 _ A9.out).mono ?_); rintro e w' ⟨rfl, ⟨nd, rfl⟩⟩; refine ⟨_, rfl, ?_⟩))
     go_ret
     exact ⟨rs, bw⟩
  ·replace c6 := Bool.eq_false_iff.mpr c6
   subst c6
   rw [if_neg (show ¬ (false = true) by decide)] at H
   by_cases c12 : a1_2 = 0
   ·rw [if_pos c12] at H
    exact absurd H (by simp)
   ·rw [if_neg c12] at H
    have c12b0 : (a1_2 == 0) = false := beq_eq_false_iff_ne.mpr c12
    have c12b1 : (a1_2 != 0) = true := bne_iff_ne.mpr c12
    by_cases c13 : (wrap64 (2 * (wrap64 (a0 - 1)))) = 0
    ·rw [if_pos c13] at H
     exact absurd H (by simp)
    ·rw [if_neg c13] at H
     have c13b0 : ((wrap64 (2 * (wrap64 (a0 - 1)))) == 0) = false := beq_eq_false_iff_ne.mpr c13
     have c13b1 : ((wrap64 (2 * (wrap64 (a0 - 1)))) != 0) = true := bne_iff_ne.mpr c13
     replace H := Option.bind_eq_some_iff.mp H
     obtain ⟨t472, A140, H⟩ := H
     (try dsimp only at H)
     have A14 := Aside0.mk A140
     clear A140
     obtain rfl := Option.some.inj H
     go_enter Tryz.func69, Tryz.ntmps69
     go_wp2_with (first | ((with_reducible refine gate_dst (N := 4) rfl ?_); refine bx 4 36 #[.int .i64 a1_0, .bool false, .int .i64 a1_2] ?_; intro gb470 hg w15 hbox hb; have BK470 := hbox; have GW470 := gs hg; have GE470 := gs hg; replace HB := bs hb; clear hb hbox hg; have hcz16_0 := bc BK470 0 (.int .i64 a1_0); have hcz16_1 := bc BK470 1 (.bool false); have hcz16_2 := bc BK470 2 (.int .i64 a1_2); have hfz16_0 := blk_frozen BK470.out 0; have hfz16_1 := blk_frozen BK470.out 1; have hfz16_2 := blk_frozen BK470.out 2) | ((with_reducible refine gate_callee (f := 48) rfl ?_); refine gl (some 34) Tryz.func48 #[.int .i64 (Int.tmod (wrap64 (a1_0 + (wrap64 (Int.tdiv a2 a1_2)))) (wrap64 (2 * (wrap64 (a0 - 1))))), .int .i64 (wrap64 ((wrap64 (2 * (wrap64 (a0 - 1)))) - (Int.tmod (wrap64 (a1_0 + (wrap64 (Int.tdiv a2 a1_2)))) (wrap64 (2 * (wrap64 (a0 - 1)))))))] ?_; (with_reducible refine (spec_l1Least.calls (Int.tmod (wrap64 (a1_0 + (wrap64 (Int.tdiv a2 a1_2)))) (wrap64 (2 * (wrap64 (a0 - 1))))) (wrap64 ((wrap64 (2 * (wrap64 (a0 - 1)))) - (Int.tmod (wrap64 (a1_0 + (wrap64 (Int.tdiv a2 a1_2)))) (wrap64 (2 * (wrap64 (a0 - 1))))))) t472 _ A14.out).mono ?_); rintro e w' ⟨rfl, ⟨nd, rfl⟩⟩; refine ⟨_, rfl, ?_⟩))
     go_ret
     exact ⟨rs, bw⟩

/-! ### spec_siComes: function 89 -/
def spec_siComes.f (a0 : Int) (a1_0 : Int) (a1_1 : Bool) (a1_2 : Int) (a2 : Int) : Option (Bool) := if a2 = 0 then (some true) else (if a0 > 1 then (if a1_2 = 0 then (none) else (some ((Int.tmod a2 a1_2) == 0))) else (some false))
set_option maxHeartbeats 8000000 in
set_option maxRecDepth 100000 in
theorem spec_siComes.calls (a0 : Int) (a1_0 : Int) (a1_1 : Bool) (a1_2 : Int) (a2 : Int) (r : Bool) (w : World) (h : spec_siComes.f a0 a1_0 a1_1 a1_2 a2 = some r) :
  Calls Tryz.prog 89 #[.int .i64 a0, .agg #[.int .i64 a1_0, .bool a1_1, .int .i64 a1_2], .int .i64 a2] w fun e w' => e = .returned (.bool r) ∧ Below w.heap.size w w' := by
 have hu36 := Tryz.underlying36
 have HB := Aside0.mk (Below.refl w.heap.size w)
 unfold spec_siComes.f at h
 have H := h
 clear h
 by_cases c4 : a2 = 0
 ·rw [if_pos c4] at H
  have c4b0 : (a2 == 0) = true := beq_iff_eq.mpr c4
  have c4b1 : (a2 != 0) = false := bne_eq_false_iff_eq.mpr c4
  clear c4
  obtain rfl := Option.some.inj H
  go_enter Tryz.func89, Tryz.ntmps89
  go_wp2_with (first | ((with_reducible refine gate_dst (N := 4) rfl ?_); refine bx 4 36 #[.int .i64 a1_0, .bool a1_1, .int .i64 a1_2] ?_; intro gb473 hg w5 hbox hb; have BK473 := hbox; have GW473 := gs hg; have GE473 := gs hg; replace HB := bs hb; clear hb hbox hg))
  go_ret
  exact ⟨rs, bw⟩
 ·rw [if_neg c4] at H
  have c4b0 : (a2 == 0) = false := beq_eq_false_iff_ne.mpr c4
  have c4b1 : (a2 != 0) = true := bne_iff_ne.mpr c4
  by_cases c6 : a0 > 1
  ·rw [if_pos c6] at H
   have c6b0 : decide (1 < a0) = true := decide_eq_true c6
   clear c6
   by_cases c7 : a1_2 = 0
   ·rw [if_pos c7] at H
    exact absurd H (by simp)
   ·rw [if_neg c7] at H
    have c7b0 : (a1_2 == 0) = false := beq_eq_false_iff_ne.mpr c7
    have c7b1 : (a1_2 != 0) = true := bne_iff_ne.mpr c7
    obtain rfl := Option.some.inj H
    go_enter Tryz.func89, Tryz.ntmps89
    go_wp2_with (first | ((with_reducible refine gate_dst (N := 4) rfl ?_); refine bx 4 36 #[.int .i64 a1_0, .bool a1_1, .int .i64 a1_2] ?_; intro gb473 hg w8 hbox hb; have BK473 := hbox; have GW473 := gs hg; have GE473 := gs hg; replace HB := bs hb; clear hb hbox hg; have hcz9_0 := bc BK473 0 (.int .i64 a1_0); have hcz9_1 := bc BK473 1 (.bool a1_1); have hcz9_2 := bc BK473 2 (.int .i64 a1_2); have hfz9_0 := blk_frozen BK473.out 0; have hfz9_1 := blk_frozen BK473.out 1; have hfz9_2 := blk_frozen BK473.out 2))
    go_ret
    exact ⟨rs, bw⟩
  ·rw [if_neg c6] at H
   have c6b0 : decide (1 < a0) = false := decide_eq_false c6
   clear c6
   obtain rfl := Option.some.inj H
   go_enter Tryz.func89, Tryz.ntmps89
   go_wp2_with (first | ((with_reducible refine gate_dst (N := 4) rfl ?_); refine bx 4 36 #[.int .i64 a1_0, .bool a1_1, .int .i64 a1_2] ?_; intro gb473 hg w10 hbox hb; have BK473 := hbox; have GW473 := gs hg; have GE473 := gs hg; replace HB := bs hb; clear hb hbox hg))
   go_ret
   exact ⟨rs, bw⟩

/-! ### spec_siMeet: function 68 -/
def spec_siMeet.j0 : Nat → Int → Int → Bool → Int → Bool → Int → Int → Bool → Int → Option (Bool)
  | 0, _, _, _, _, _, _, _, _, _ => none
  | k + 1, x0, x3, x20, x475000, x475001, x475002, x476000, x476001, x476002 => if x20 = true then (some false) else ((spec_siAt.f x0 x475000 x475001 x475002 x3).bind fun t478 => ((spec_siAt.f x0 x476000 x476001 x476002 x3).bind fun t479 => (some (t478 == t479))))
def spec_siMeet.f (k : Nat) (a0 : Int) (a1_0 : Int) (a1_1 : Bool) (a1_2 : Int) (a2_0 : Int) (a2_1 : Bool) (a2_2 : Int) (a3 : Int) : Option (Bool) := (spec_siComes.f a0 a1_0 a1_1 a1_2 a3).bind fun t476 => (if t476 = true then (spec_siMeet.j0 k a0 a3 false a1_0 a1_1 a1_2 a2_0 a2_1 a2_2) else ((spec_siComes.f a0 a2_0 a2_1 a2_2 a3).bind fun t477 => (spec_siMeet.j0 k a0 a3 (!t477) a1_0 a1_1 a1_2 a2_0 a2_1 a2_2)))
theorem spec_siMeet.mono_l : ∀ k, (∀ y0 y1 y2 y3 y4 y5 y6 y7 y8, LeO (spec_siMeet.j0 k y0 y1 y2 y3 y4 y5 y6 y7 y8) (spec_siMeet.j0 (k + 1) y0 y1 y2 y3 y4 y5 y6 y7 y8))
  | 0 => fun _ _ _ _ _ _ _ _ _ r h => by simp [spec_siMeet.j0] at h
  | k + 1 => by
    have ih0 := spec_siMeet.mono_l k
    · intro y0 y1 y2 y3 y4 y5 y6 y7 y8
      unfold spec_siMeet.j0
      repeat' first
      | (with_reducible exact ih0 _ _ _ _ _ _ _ _ _)
      | (with_reducible exact LeO.refl _)
      | (with_reducible exact LeO.none _)
      | (with_reducible refine LeO.ite ?_ ?_)
      | (with_reducible refine LeO.bind ?_ (fun _ => ?_))
      | exact ih0 _ _ _ _ _ _ _ _ _
      | exact LeO.none _
      | refine LeO.ite ?_ ?_
      | refine LeO.bind ?_ (fun _ => ?_)
theorem spec_siMeet.mono : ∀ a0 a1 a2 a3 a4 a5 a6 a7 k, LeO (spec_siMeet.f k a0 a1 a2 a3 a4 a5 a6 a7) (spec_siMeet.f (k + 1) a0 a1 a2 a3 a4 a5 a6 a7) := by
  intro a0 a1 a2 a3 a4 a5 a6 a7 k
  have ih0 := spec_siMeet.mono_l k
  unfold spec_siMeet.f
  repeat' first
      | (with_reducible exact ih0 _ _ _ _ _ _ _ _ _)
      | (with_reducible exact LeO.refl _)
      | (with_reducible exact LeO.none _)
      | (with_reducible refine LeO.ite ?_ ?_)
      | (with_reducible refine LeO.bind ?_ (fun _ => ?_))
      | exact ih0 _ _ _ _ _ _ _ _ _
      | exact LeO.none _
      | refine LeO.ite ?_ ?_
      | refine LeO.bind ?_ (fun _ => ?_)
def spec_siMeet.T3 : Bool × List (List Nat × List Nat) := (true, [([], []), ([], []), ([], []), ([0, 1, 2], [0, 1, 2]), ([], []), ([], []), ([], []), ([4, 5, 6, 3], [4, 5, 6]), ([3, 7], [3, 7]), ([8, 7, 0, 1, 2, 3, 4, 5, 6, 7, 8], [8])])
def spec_siMeet.B3 : List Nat := [0, 0, 0, 7, 0, 0, 0, 127, 255, 511]
theorem spec_siMeet.tab3 : rtab .any (opsOf Tryz.f68 3) = spec_siMeet.T3 := by kernel_rfl
theorem spec_siMeet.bits3 : waitsOk spec_siMeet.T3.2 spec_siMeet.B3 = true := by kernel_rfl
set_option maxHeartbeats 8000000 in
set_option maxRecDepth 100000 in
theorem spec_siMeet.calls (k : Nat) (a0 : Int) (a1_0 : Int) (a1_1 : Bool) (a1_2 : Int) (a2_0 : Int) (a2_1 : Bool) (a2_2 : Int) (a3 : Int) (r : Bool) (w : World) (h : spec_siMeet.f k a0 a1_0 a1_1 a1_2 a2_0 a2_1 a2_2 a3 = some r) :
  Calls Tryz.prog 68 #[.int .i64 a0, .agg #[.int .i64 a1_0, .bool a1_1, .int .i64 a1_2], .agg #[.int .i64 a2_0, .bool a2_1, .int .i64 a2_2], .int .i64 a3] w fun e w' => e = .returned (.bool r) ∧ Below w.heap.size w w' := by
 have hu36 := Tryz.underlying36
 have HB := Aside0.mk (Below.refl w.heap.size w)
 unfold spec_siMeet.f at h
 have H := h
 clear h
 have HC5 := Aside0.mk H
 clear H
 go_enter Tryz.func68, Tryz.ntmps68
 go_upto_region 1 with (first | ((with_reducible refine gate_dst (N := 5) rfl ?_); refine bx 5 36 #[.int .i64 a1_0, .bool a1_1, .int .i64 a1_2] ?_; intro gb474 hg w6 hbox hb; have BK474 := hbox; have GW474 := gs hg; have GE474 := gs hg; replace HB := bs hb; clear hb hbox hg) | ((with_reducible refine gate_dst (N := 6) rfl ?_); refine bx 6 36 #[.int .i64 a2_0, .bool a2_1, .int .i64 a2_2] ?_; intro gb475 hg w7 hbox hb; have BK475 := hbox; have GW475 := gs hg; have GE475 := gs hg; replace HB := bs hb; have NB474_475 := nl BK474 hg; have NB475_474 := ng BK474 hg; replace BK474 := nk BK474 hb; clear hb hbox hg))
 (try simp only [Act.put, List.setIfInBounds_toArray, List.set_cons_zero, List.set_cons_succ])
 go_cut [20] (fun v20 wc => ∃ (kq : Nat) (x20_4 : Bool), v20 = .bool x20_4 ∧ Aside0 (spec_siMeet.j0 kq a0 a3 x20_4 a1_0 a1_1 a1_2 a2_0 a2_1 a2_2 = some r) ∧ Aside0 (kq ≤ k) ∧ Aside0 (wc.heap[gb474]? = some (.cells #[.int .i64 a1_0, .bool a1_1, .int .i64 a1_2] 36 (0, 0))) ∧ Aside0 (wc.heap[gb475]? = some (.cells #[.int .i64 a2_0, .bool a2_1, .int .i64 a2_2] 36 (0, 0))) ∧ Aside0 (Below w.heap.size w wc))
 case first =>
  have H := HC5.out
  clear HC5
  replace H := Option.bind_eq_some_iff.mp H
  obtain ⟨t476, A80, H⟩ := H
  (try dsimp only at H)
  have A8 := Aside0.mk A80
  clear A80
  by_cases c9 : t476 = true
  ·subst c9
   rw [if_pos rfl] at H
   have H' := Aside0.mk H
   clear H
   have hnb10 := NB474_475.out
   have hnc10 := NB475_474.out
   have hcz11_0 := bc BK474 0 (.int .i64 a1_0)
   have hcz11_1 := bc BK474 1 (.bool a1_1)
   have hcz11_2 := bc BK474 2 (.int .i64 a1_2)
   have hfz11_0 := blk_frozen BK474.out 0
   have hfz11_1 := blk_frozen BK474.out 1
   have hfz11_2 := blk_frozen BK474.out 2
   go_wp2_with (first | ((with_reducible refine gate_callee (f := 89) rfl ?_); refine gl (some 12) Tryz.func89 #[.int .i64 a0, .agg #[.int .i64 a1_0, .bool a1_1, .int .i64 a1_2], .int .i64 a3] ?_; (with_reducible refine (spec_siComes.calls a0 a1_0 a1_1 a1_2 a3 true _ A8.out).mono ?_); rintro e w12 ⟨rfl, hb⟩; refine ⟨_, rfl, ?_⟩; replace BK474 := nk BK474 hb; replace BK475 := nk BK475 hb; replace HB := bs hb; (try clear hb)))
   go_meet
   case rel => exact ⟨_, (false), (rs), H', ⟨by first | omega | exact Nat.le_refl _⟩, ⟨pk BK474⟩, ⟨pk BK475⟩, ⟨bw⟩⟩
  ·replace c9 := Bool.eq_false_iff.mpr c9
   subst c9
   rw [if_neg (show ¬ (false = true) by decide)] at H
   replace H := Option.bind_eq_some_iff.mp H
   obtain ⟨t477, A130, H⟩ := H
   (try dsimp only at H)
   have A13 := Aside0.mk A130
   clear A130
   have H' := Aside0.mk H
   clear H
   have hnb14 := NB474_475.out
   have hnc14 := NB475_474.out
   have hcz15_0 := bc BK474 0 (.int .i64 a1_0)
   have hcz15_1 := bc BK474 1 (.bool a1_1)
   have hcz15_2 := bc BK474 2 (.int .i64 a1_2)
   have hfz15_0 := blk_frozen BK474.out 0
   have hfz15_1 := blk_frozen BK474.out 1
   have hfz15_2 := blk_frozen BK474.out 2
   go_wp2_with (first | ((with_reducible refine gate_callee (f := 89) rfl ?_); refine gl (some 12) Tryz.func89 #[.int .i64 a0, .agg #[.int .i64 a1_0, .bool a1_1, .int .i64 a1_2], .int .i64 a3] ?_; (with_reducible refine (spec_siComes.calls a0 a1_0 a1_1 a1_2 a3 false _ A8.out).mono ?_); rintro e w16 ⟨rfl, hb⟩; refine ⟨_, rfl, ?_⟩; replace BK474 := nk BK474 hb; replace BK475 := nk BK475 hb; replace HB := bs hb; (try clear hb); have hcz17_0 := bc BK475 0 (.int .i64 a2_0); have hcz17_1 := bc BK475 1 (.bool a2_1); have hcz17_2 := bc BK475 2 (.int .i64 a2_2); have hfz17_0 := blk_frozen BK475.out 0; have hfz17_1 := blk_frozen BK475.out 1; have hfz17_2 := blk_frozen BK475.out 2) | (go_at_call 89; (with_reducible refine (spec_siComes.calls a0 a2_0 a2_1 a2_2 a3 t477 _ A13.out).mono ?_); rintro e w18 ⟨rfl, hb⟩; replace BK474 := nk BK474 hb; replace BK475 := nk BK475 hb; replace HB := bs hb; (try clear hb)))
   go_meet
   case rel => exact ⟨_, (!t477), (rs), H', ⟨by first | omega | exact Nat.le_refl _⟩, ⟨pk BK474⟩, ⟨pk BK475⟩, ⟨bw⟩⟩
 case rest =>
  clear HC5
  try clear c1
  try clear p2
  try clear c6
  try clear c8
  try clear c9
  try clear c10
  try clear c14
  try clear hcz11_0
  try clear hcz11_1
  try clear hcz11_2
  try clear hcz15_0
  try clear hcz15_1
  try clear hcz15_2
  try clear hcz17_0
  try clear hcz17_1
  try clear hcz17_2
  try clear hfz11_0
  try clear hfz11_1
  try clear hfz11_2
  try clear hfz15_0
  try clear hfz15_1
  try clear hfz15_2
  try clear hfz17_0
  try clear hfz17_1
  try clear hfz17_2
  obtain ⟨kq, x20_4, rfl, HA, HJ4, BK474, BK475, HB⟩ := hcut
  cases kq with
  | zero => exact absurd HA.out (by simp [spec_siMeet.j0])
  | succ kj4 =>
   have H := HA.out
   clear HA
   simp only [spec_siMeet.j0] at H
   by_cases c19 : x20_4 = true
   ·subst c19
    rw [if_pos rfl] at H
    obtain rfl := Option.some.inj H
    go_wp2
    go_ret
    exact ⟨rs, bw⟩
   ·replace c19 := Bool.eq_false_iff.mpr c19
    subst c19
    rw [if_neg (show ¬ (false = true) by decide)] at H
    replace H := Option.bind_eq_some_iff.mp H
    obtain ⟨t478, A200, H⟩ := H
    (try dsimp only at H)
    have A20 := Aside0.mk A200
    clear A200
    replace H := Option.bind_eq_some_iff.mp H
    obtain ⟨t479, A210, H⟩ := H
    (try dsimp only at H)
    have A21 := Aside0.mk A210
    clear A210
    obtain rfl := Option.some.inj H
    try go_wp2
    replace BK474 := Aside0.mk (blk_drew BK474.out)
    replace BK475 := Aside0.mk (blk_drew BK475.out)
    replace HB := Aside0.mk (below_drew1 HB.out)
    refine start_ (n := 10) (S := fun w' => w'.cell? ⟨gb474, 0, none⟩ = some (.int .i64 a1_0) ∧ w'.cell? ⟨gb474, 1, none⟩ = some (.bool a1_1) ∧ w'.cell? ⟨gb474, 2, none⟩ = some (.int .i64 a1_2) ∧ w'.cell? ⟨gb475, 0, none⟩ = some (.int .i64 a2_0) ∧ w'.cell? ⟨gb475, 1, none⟩ = some (.bool a2_1) ∧ w'.cell? ⟨gb475, 2, none⟩ = some (.int .i64 a2_2)) (ds := []) (tb 10 0) (by kernel_rfl) rfl rfl ⟨ec BK474, ec BK474, ec BK474, ec BK475, ec BK475, ec BK475⟩ (fun hHeld => ?_); refine with_tabW spec_siMeet.tab3 spec_siMeet.bits3 (fun HT_ HW_ => ?_)
    generalize wc.drew = w22 at BK474 BK475 HB hHeld ⊢
    refine pu 0 (some 21) (tb 10 1) ?_
    refine pu 2 (some 23) (tb 10 5) ?_
    refine pu 4 (some 25) (tb 10 21) ?_
    refine pu 6 (some 27) (tb 10 85) ?_
    refine take_ (i := 1) (N := some 22) (v := ?_) (a' := ?_) (tb 10 87) rfl rfl (take_ofW HT_.out HW_.out (by kernel_rfl)) (fun _ _ _ h => h) (Or.inl ⟨by rfl, ?_⟩) hHeld ?_ ?_
    rotate_left
    ·rintro w' ⟨s0, s1, s2, s3, s4, s5⟩
     go_simp
     with_reducible rfl
    rotate_left
    ·simp only [Act.put, List.setIfInBounds_toArray, List.set_cons_zero, List.set_cons_succ, i64_w, i32_w]
     rfl
    refine take_ (i := 5) (N := some 26) (v := ?_) (a' := ?_) (tb 10 119) rfl rfl (take_ofW HT_.out HW_.out (by kernel_rfl)) (fun _ _ _ h => h) (Or.inl ⟨by rfl, ?_⟩) hHeld ?_ ?_
    rotate_left
    ·rintro w' ⟨s0, s1, s2, s3, s4, s5⟩
     go_simp
     with_reducible rfl
    rotate_left
    ·simp only [Act.put, List.setIfInBounds_toArray, List.set_cons_zero, List.set_cons_succ, i64_w, i32_w]
     rfl
    refine one_ (i := 3) (N := some 24) (tb 10 127) rfl rfl (one_of HT_.out (by kernel_rfl)) (by decide) (fun K hK => ?_)
    refine goes_ Tryz.func69 (by kernel_rfl) rfl #[.int .i64 a0, .agg #[.int .i64 a1_0, .bool a1_1, .int .i64 a1_2], .int .i64 a3] (by rfl) rfl rfl (by (try simp only [List.map_toArray, List.map_cons, List.map_nil]); first | done | rfl | (simp only [List.length_drop, List.length_take]; rfl)) ?_
    with_reducible refine (spec_siAt.calls a0 a1_0 a1_1 a1_2 a3 t478 _ A20.out).mono ?_
    rintro e w23 ⟨rfl, hb⟩
    refine ⟨_, rfl, ?_⟩
    replace BK474 := nk BK474 hb
    replace BK475 := nk BK475 hb
    replace HB := bs hb
    (try clear hb)
    refine hK.out _ _ ⟨ec BK474, ec BK474, ec BK474, ec BK475, ec BK475, ec BK475⟩ (fun hHeld => ?_)
    clear hK K
    refine nm (some 24) ?_
    refine one_ (i := 7) (N := some 28) (tb 10 255) rfl rfl (one_of HT_.out (by kernel_rfl)) (by decide) (fun K hK => ?_)
    refine goes_ Tryz.func69 (by kernel_rfl) rfl #[.int .i64 a0, .agg #[.int .i64 a2_0, .bool a2_1, .int .i64 a2_2], .int .i64 a3] (by rfl) rfl rfl (by (try simp only [List.map_toArray, List.map_cons, List.map_nil]); first | done | rfl | (simp only [List.length_drop, List.length_take]; rfl)) ?_
    with_reducible refine (spec_siAt.calls a0 a2_0 a2_1 a2_2 a3 t479 _ A21.out).mono ?_
    rintro e w24 ⟨rfl, hb⟩
    refine ⟨_, rfl, ?_⟩
    replace BK474 := nk BK474 hb
    replace BK475 := nk BK475 hb
    replace HB := bs hb
    (try clear hb)
    refine hK.out _ _ ⟨ec BK474, ec BK474, ec BK474, ec BK475, ec BK475, ec BK475⟩ (fun hHeld => ?_)
    clear hK K
    refine nm (some 28) ?_
    refine pu 8 (some 29) (tb 10 511) ?_
    refine pu 9 (some 8) (tb 10 1023) ?_
    refine done_ (done_of HT_.out (by kernel_rfl)) ?_
    try go_wp2
    go_ret
    exact ⟨rs, bw⟩

/-! ### spec_MiddleMeeting: function 30 -/
mutual
def spec_MiddleMeeting.j0 : Nat → Int → Bool → Option (Int × Int × Bool)
  | 0, _, _ => none
  | k + 1, x0, x14 => if x14 = true then (some (0, 0, false)) else (spec_MiddleMeeting.l0 k x0 1 0 false 1 0 false 3)
def spec_MiddleMeeting.l0 : Nat → Int → Int → Int → Bool → Int → Int → Bool → Int → Option (Int × Int × Bool)
  | 0, _, _, _, _, _, _, _, _ => none
  | k + 1, x0, x7, x482000, x482001, x482002, x483000, x483001, x483002 => if x7 ≤ 100000 then ((spec_siMeet.f k x0 x482000 x482001 x482002 x483000 x483001 x483002 x7).bind fun t483 => (if t483 = true then ((spec_siAt.f x0 x482000 x482001 x482002 x7).bind fun t484 => (some (x7, t484, true))) else (spec_MiddleMeeting.l0 k x0 (wrap64 (x7 + 1)) x482000 x482001 x482002 x483000 x483001 x483002))) else (some (0, 0, false))
end
def spec_MiddleMeeting.f (k : Nat) (a0 : Int) : Option (Int × Int × Bool) := (spec_siSoldiers.f a0).bind fun t480 => (if t480 = true then (spec_MiddleMeeting.j0 k a0 (a0 == 1)) else (spec_MiddleMeeting.j0 k a0 true))
theorem spec_MiddleMeeting.mono_l : ∀ k, (∀ y0 y1, LeO (spec_MiddleMeeting.j0 k y0 y1) (spec_MiddleMeeting.j0 (k + 1) y0 y1)) ∧ (∀ y0 y1 y2 y3 y4 y5 y6 y7, LeO (spec_MiddleMeeting.l0 k y0 y1 y2 y3 y4 y5 y6 y7) (spec_MiddleMeeting.l0 (k + 1) y0 y1 y2 y3 y4 y5 y6 y7))
  | 0 => ⟨fun _ _ r h => by simp [spec_MiddleMeeting.j0] at h, fun _ _ _ _ _ _ _ _ r h => by simp [spec_MiddleMeeting.l0] at h⟩
  | k + 1 => by
    obtain ⟨ih0, ih1⟩ := spec_MiddleMeeting.mono_l k
    refine ⟨?q0, ?q1⟩
    case' q0 => (intros; unfold spec_MiddleMeeting.j0)
    case' q1 => (intros; unfold spec_MiddleMeeting.l0)
    all_goals repeat' first
     | (with_reducible exact ih0 _ _)
     | (with_reducible exact ih1 _ _ _ _ _ _ _ _)
     | (with_reducible exact spec_siMeet.mono _ _ _ _ _ _ _ _ _)
     | (with_reducible exact LeO.refl _)
     | (with_reducible exact LeO.none _)
     | (with_reducible refine LeO.ite ?_ ?_)
     | (with_reducible refine LeO.bind ?_ (fun _ => ?_))
     | exact ih0 _ _
     | exact ih1 _ _ _ _ _ _ _ _
     | exact spec_siMeet.mono _ _ _ _ _ _ _ _ _
     | exact LeO.none _
     | refine LeO.ite ?_ ?_
     | refine LeO.bind ?_ (fun _ => ?_)
theorem spec_MiddleMeeting.mono : ∀ a0 k, LeO (spec_MiddleMeeting.f k a0) (spec_MiddleMeeting.f (k + 1) a0) := by
  intro a0 k
  obtain ⟨ih0, ih1⟩ := spec_MiddleMeeting.mono_l k
  unfold spec_MiddleMeeting.f
  repeat' first
      | (with_reducible exact ih0 _ _)
      | (with_reducible exact ih1 _ _ _ _ _ _ _ _)
      | (with_reducible exact spec_siMeet.mono _ _ _ _ _ _ _ _ _)
      | (with_reducible exact LeO.refl _)
      | (with_reducible exact LeO.none _)
      | (with_reducible refine LeO.ite ?_ ?_)
      | (with_reducible refine LeO.bind ?_ (fun _ => ?_))
      | exact ih0 _ _
      | exact ih1 _ _ _ _ _ _ _ _
      | exact spec_siMeet.mono _ _ _ _ _ _ _ _ _
      | exact LeO.none _
      | refine LeO.ite ?_ ?_
      | refine LeO.bind ?_ (fun _ => ?_)
set_option maxHeartbeats 8000000 in
set_option maxRecDepth 100000 in
theorem spec_MiddleMeeting.calls (k : Nat) (a0 : Int) (r1 : Int) (r2 : Int) (r3 : Bool) (w : World) (h : spec_MiddleMeeting.f k a0 = some (r1, r2, r3)) :
  Calls Tryz.prog 30 #[.int .i64 a0] w fun e w' => e = .returned (.tuple #[.int .i64 r1, .int .i64 r2, .bool r3]) ∧ Below w.heap.size w w' := by
 have hu36 := Tryz.underlying36
 have HB := Aside0.mk (Below.refl w.heap.size w)
 unfold spec_MiddleMeeting.f at h
 have H := h
 clear h
 have HC2 := Aside0.mk H
 clear H
 go_enter Tryz.func30, Tryz.ntmps30
 go_upto_region 1 with (fail)
 go_cut [14] (fun v14 wc => ∃ (kq : Nat) (x14_1 : Bool), v14 = .bool x14_1 ∧ Aside0 (spec_MiddleMeeting.j0 kq a0 x14_1 = some (r1, r2, r3)) ∧ Aside0 (kq ≤ k) ∧ Aside0 (Below w.heap.size w wc))
 case first =>
  have H := HC2.out
  clear HC2
  replace H := Option.bind_eq_some_iff.mp H
  obtain ⟨t480, A30, H⟩ := H
  (try dsimp only at H)
  have A3 := Aside0.mk A30
  clear A30
  by_cases c4 : t480 = true
  ·subst c4
   rw [if_pos rfl] at H
   have H' := Aside0.mk H
   clear H
   go_wp2_with (first | ((with_reducible refine gate_callee (f := 43) rfl ?_); refine gl (some 9) Tryz.func43 #[.int .i64 a0] ?_; (with_reducible refine (spec_siSoldiers.calls a0 true _ A3.out).mono ?_); rintro e w' ⟨rfl, ⟨nd, rfl⟩⟩; refine ⟨_, rfl, ?_⟩))
   go_meet
   case rel => exact ⟨_, ((a0 == 1)), (rs), H', ⟨by first | omega | exact Nat.le_refl _⟩, ⟨bw⟩⟩
  ·replace c4 := Bool.eq_false_iff.mpr c4
   subst c4
   rw [if_neg (show ¬ (false = true) by decide)] at H
   have H' := Aside0.mk H
   clear H
   go_wp2_with (first | ((with_reducible refine gate_callee (f := 43) rfl ?_); refine gl (some 9) Tryz.func43 #[.int .i64 a0] ?_; (with_reducible refine (spec_siSoldiers.calls a0 false _ A3.out).mono ?_); rintro e w' ⟨rfl, ⟨nd, rfl⟩⟩; refine ⟨_, rfl, ?_⟩))
   go_meet
   case rel => exact ⟨_, (true), (rs), H', ⟨by first | omega | exact Nat.le_refl _⟩, ⟨bw⟩⟩
 case rest =>
  clear HC2
  try clear p2
  try clear c3
  try clear c4
  obtain ⟨kq, x14_1, rfl, HA, HJ1, HB⟩ := hcut
  cases kq with
  | zero => exact absurd HA.out (by simp [spec_MiddleMeeting.j0])
  | succ kj1 =>
   have H := HA.out
   clear HA
   simp only [spec_MiddleMeeting.j0] at H
   by_cases c5 : x14_1 = true
   ·subst c5
    rw [if_pos rfl] at H
    simp only [Option.some.injEq, Prod.mk.injEq] at H
    obtain ⟨rfl, rfl, rfl⟩ := H
    go_wp2
    go_ret3
    exact ⟨rs, bw⟩
   ·replace c5 := Bool.eq_false_iff.mpr c5
    subst c5
    rw [if_neg (show ¬ (false = true) by decide)] at H
    have H' := Aside0.mk H
    clear H
    go_wp2_with (first | ((with_reducible refine gate_dst (N := 5) rfl ?_); refine bx 5 36 #[.int .i64 0, .bool false, .int .i64 0] ?_; intro gb481 hg w6 hbox hb; have BK481 := hbox; have GW481 := gs hg; have GE481 := gs hg; replace HB := bs hb; clear hb hbox hg) | ((with_reducible refine gate_dst (N := 6) rfl ?_); refine bx 6 36 #[.int .i64 0, .bool false, .int .i64 0] ?_; intro gb482 hg w7 hbox hb; have BK482 := hbox; have GW482 := gs hg; have GE482 := gs hg; replace HB := bs hb; have NB481_482 := nl BK481 hg; have NB482_481 := ng BK481 hg; replace BK481 := nk BK481 hb; clear hb hbox hg; have hnb8 := NB481_482.out; have hnc8 := NB482_481.out; have hcz9_0 := bc BK481 0 (.int .i64 0); have hcz9_1 := bc BK481 1 (.bool false); have hcz9_2 := bc BK481 2 (.int .i64 0); have hfz9_0 := blk_frozen BK481.out 0; have hfz9_1 := blk_frozen BK481.out 1; have hfz9_2 := blk_frozen BK481.out 2; have hcz10_0 := bc BK482 0 (.int .i64 0); have hcz10_1 := bc BK482 1 (.bool false); have hcz10_2 := bc BK482 2 (.int .i64 0); have hfz10_0 := blk_frozen BK482.out 0; have hfz10_1 := blk_frozen BK482.out 1; have hfz10_2 := blk_frozen BK482.out 2))
    go_loopg [7] kj1 (fun kq v7 w' => ∃ (x7_2 : Int), v7 = .int .i64 x7_2 ∧ Aside0 (spec_MiddleMeeting.l0 kq a0 x7_2 0 false 1 0 false 3 = some (r1, r2, r3)) ∧ Aside0 (kq ≤ kj1) ∧ Aside0 (w'.heap[gb481]? = some (.cells #[.int .i64 0, .bool false, .int .i64 1] 36 (0, 0))) ∧ Aside0 (w'.heap[gb482]? = some (.cells #[.int .i64 0, .bool false, .int .i64 3] 36 (0, 0))) ∧ Aside0 (Below w.heap.size w w'))
    case atStart => exact ⟨(1), (rs), H', ⟨Nat.le_refl _⟩, ⟨by (with_reducible repeat (first | refine blk_drewN ?_ _ | refine blk_drew ?_ | refine blk_alloc ?_ _)); refine blk_far ?_ NB481_482.out _; (with_reducible repeat (first | refine blk_drewN ?_ _ | refine blk_drew ?_ | refine blk_alloc ?_ _)); refine blk_far ?_ NB481_482.out _; (with_reducible repeat (first | refine blk_drewN ?_ _ | refine blk_drew ?_ | refine blk_alloc ?_ _)); refine blk_far ?_ NB481_482.out _; (with_reducible repeat (first | refine blk_drewN ?_ _ | refine blk_drew ?_ | refine blk_alloc ?_ _)); refine blk_put (cs := #[.int .i64 0, .bool false, .int .i64 0]) ?_ 2 _ rfl; (with_reducible repeat (first | refine blk_drewN ?_ _ | refine blk_drew ?_ | refine blk_alloc ?_ _)); refine blk_put (cs := #[.int .i64 0, .bool false, .int .i64 0]) ?_ 1 _ rfl; (with_reducible repeat (first | refine blk_drewN ?_ _ | refine blk_drew ?_ | refine blk_alloc ?_ _)); refine blk_put (cs := #[.int .i64 0, .bool false, .int .i64 0]) ?_ 0 _ rfl; (with_reducible repeat (first | refine blk_drewN ?_ _ | refine blk_drew ?_ | refine blk_alloc ?_ _)); exact BK481.out⟩, ⟨by (with_reducible repeat (first | refine blk_drewN ?_ _ | refine blk_drew ?_ | refine blk_alloc ?_ _)); refine blk_put (cs := #[.int .i64 0, .bool false, .int .i64 0]) ?_ 2 _ rfl; (with_reducible repeat (first | refine blk_drewN ?_ _ | refine blk_drew ?_ | refine blk_alloc ?_ _)); refine blk_put (cs := #[.int .i64 0, .bool false, .int .i64 0]) ?_ 1 _ rfl; (with_reducible repeat (first | refine blk_drewN ?_ _ | refine blk_drew ?_ | refine blk_alloc ?_ _)); refine blk_put (cs := #[.int .i64 0, .bool false, .int .i64 0]) ?_ 0 _ rfl; (with_reducible repeat (first | refine blk_drewN ?_ _ | refine blk_drew ?_ | refine blk_alloc ?_ _)); refine blk_far ?_ NB482_481.out _; (with_reducible repeat (first | refine blk_drewN ?_ _ | refine blk_drew ?_ | refine blk_alloc ?_ _)); refine blk_far ?_ NB482_481.out _; (with_reducible repeat (first | refine blk_drewN ?_ _ | refine blk_drew ?_ | refine blk_alloc ?_ _)); refine blk_far ?_ NB482_481.out _; (with_reducible repeat (first | refine blk_drewN ?_ _ | refine blk_drew ?_ | refine blk_alloc ?_ _)); exact BK482.out⟩, ⟨bw⟩⟩
    case round =>
     clear H'
     try clear p2
     try clear c3
     try clear c4
     try clear c5
     try clear c8
     try clear hcz10_0
     try clear hcz10_1
     try clear hcz10_2
     try clear hcz9_0
     try clear hcz9_1
     try clear hcz9_2
     try clear hfz10_0
     try clear hfz10_1
     try clear hfz10_2
     try clear hfz9_0
     try clear hfz9_1
     try clear hfz9_2
     try clear p2
     obtain ⟨x7_2, rfl, HA, HK2, BK481, BK482, HB⟩ := hrel
     cases gk with
     | zero => exact absurd HA.out (by simp [spec_MiddleMeeting.l0])
     | succ k2 =>
      have H := HA.out
      clear HA
      simp only [spec_MiddleMeeting.l0] at H
      by_cases c11 : x7_2 ≤ 100000
      ·rw [if_pos c11] at H
       have c11b0 : decide (x7_2 ≤ 100000) = true := decide_eq_true c11
       clear c11
       replace H := Option.bind_eq_some_iff.mp H
       obtain ⟨t483, A120, H⟩ := H
       (try dsimp only at H)
       have A12 := Aside0.mk A120
       clear A120
       by_cases c13 : t483 = true
       ·subst c13
        rw [if_pos rfl] at H
        replace H := Option.bind_eq_some_iff.mp H
        obtain ⟨t484, A140, H⟩ := H
        (try dsimp only at H)
        have A14 := Aside0.mk A140
        clear A140
        simp only [Option.some.injEq, Prod.mk.injEq] at H
        obtain ⟨rfl, rfl, rfl⟩ := H
        have hnb15 := NB481_482.out
        have hnc15 := NB482_481.out
        have hcz16_0 : wr.cell? ⟨gb481, 0, none⟩ = some (.int .i64 0) := ec BK481
        have hcz16_1 : wr.cell? ⟨gb481, 1, none⟩ = some (.bool false) := ec BK481
        have hcz16_2 : wr.cell? ⟨gb481, 2, none⟩ = some (.int .i64 1) := ec BK481
        have hfz16_0 := blk_frozen BK481.out 0
        have hfz16_1 := blk_frozen BK481.out 1
        have hfz16_2 := blk_frozen BK481.out 2
        have hcz17_0 : wr.cell? ⟨gb482, 0, none⟩ = some (.int .i64 0) := ec BK482
        have hcz17_1 : wr.cell? ⟨gb482, 1, none⟩ = some (.bool false) := ec BK482
        have hcz17_2 : wr.cell? ⟨gb482, 2, none⟩ = some (.int .i64 3) := ec BK482
        have hfz17_0 := blk_frozen BK482.out 0
        have hfz17_1 := blk_frozen BK482.out 1
        have hfz17_2 := blk_frozen BK482.out 2
        go_wp2_with (first | ((with_reducible refine gate_callee (f := 68) rfl ?_); refine gl (some 25) Tryz.func68 #[.int .i64 a0, .agg #[.int .i64 0, .bool false, .int .i64 1], .agg #[.int .i64 0, .bool false, .int .i64 3], .int .i64 x7_2] ?_; (with_reducible refine (spec_siMeet.calls k2 a0 0 false 1 0 false 3 x7_2 true _ A12.out).mono ?_); rintro e w18 ⟨rfl, hb⟩; refine ⟨_, rfl, ?_⟩; replace BK481 := nk BK481 hb; replace HB := bs hb; (try clear hb); have hcz19_0 := bc BK481 0 (.int .i64 0); have hcz19_1 := bc BK481 1 (.bool false); have hcz19_2 := bc BK481 2 (.int .i64 1); have hfz19_0 := blk_frozen BK481.out 0; have hfz19_1 := blk_frozen BK481.out 1; have hfz19_2 := blk_frozen BK481.out 2) | ((with_reducible refine gate_callee (f := 69) rfl ?_); refine gl (some 30) Tryz.func69 #[.int .i64 a0, .agg #[.int .i64 0, .bool false, .int .i64 1], .int .i64 x7_2] ?_; (with_reducible refine (spec_siAt.calls a0 0 false 1 x7_2 t484 _ A14.out).mono ?_); rintro e w20 ⟨rfl, hb⟩; refine ⟨_, rfl, ?_⟩; replace HB := bs hb; (try clear hb)))
        go_ret3
        exact ⟨rs, bw⟩
       ·replace c13 := Bool.eq_false_iff.mpr c13
        subst c13
        rw [if_neg (show ¬ (false = true) by decide)] at H
        have H' := Aside0.mk H
        clear H
        have hnb21 := NB481_482.out
        have hnc21 := NB482_481.out
        have hcz22_0 : wr.cell? ⟨gb481, 0, none⟩ = some (.int .i64 0) := ec BK481
        have hcz22_1 : wr.cell? ⟨gb481, 1, none⟩ = some (.bool false) := ec BK481
        have hcz22_2 : wr.cell? ⟨gb481, 2, none⟩ = some (.int .i64 1) := ec BK481
        have hfz22_0 := blk_frozen BK481.out 0
        have hfz22_1 := blk_frozen BK481.out 1
        have hfz22_2 := blk_frozen BK481.out 2
        have hcz23_0 : wr.cell? ⟨gb482, 0, none⟩ = some (.int .i64 0) := ec BK482
        have hcz23_1 : wr.cell? ⟨gb482, 1, none⟩ = some (.bool false) := ec BK482
        have hcz23_2 : wr.cell? ⟨gb482, 2, none⟩ = some (.int .i64 3) := ec BK482
        have hfz23_0 := blk_frozen BK482.out 0
        have hfz23_1 := blk_frozen BK482.out 1
        have hfz23_2 := blk_frozen BK482.out 2
        go_wp2_with (first | ((with_reducible refine gate_callee (f := 68) rfl ?_); refine gl (some 25) Tryz.func68 #[.int .i64 a0, .agg #[.int .i64 0, .bool false, .int .i64 1], .agg #[.int .i64 0, .bool false, .int .i64 3], .int .i64 x7_2] ?_; (with_reducible refine (spec_siMeet.calls k2 a0 0 false 1 0 false 3 x7_2 false _ A12.out).mono ?_); rintro e w24 ⟨rfl, hb⟩; refine ⟨_, rfl, ?_⟩; replace BK481 := nk BK481 hb; replace BK482 := nk BK482 hb; replace HB := bs hb; (try clear hb)))
        go_roundg k2
        case measure => have := HJ1.out; have := HK2.out; omega
        case rel => exact ⟨(wrap64 (x7_2 + 1)), (rs), H', ⟨by have := HJ1.out; have := HK2.out; omega⟩, ⟨pk BK481⟩, ⟨pk BK482⟩, ⟨bw⟩⟩
      ·rw [if_neg c11] at H
       have c11b0 : decide (x7_2 ≤ 100000) = false := decide_eq_false c11
       clear c11
       simp only [Option.some.injEq, Prod.mk.injEq] at H
       obtain ⟨rfl, rfl, rfl⟩ := H
       go_wp2
       go_ret3
       exact ⟨rs, bw⟩

/-! ### spec_DrawSignalText: function 31 -/
def spec_DrawSignalText.f (l0 : List Int) : Option (Int × Bool × Int) := (spec_l1Cur_signal.f l0 0 0).bind fun bt487 => (some (bt487.2.1, bt487.2.2.1, bt487.2.2.2.1))
set_option maxHeartbeats 8000000 in
set_option maxRecDepth 100000 in
theorem spec_DrawSignalText.calls (A0 : Option Addr) (c0 : Nat) (l0 : List Int) (r1 : Int) (r2 : Bool) (r3 : Int) (w : World) (hr0 : Kd.C (Kd.int .u8) w A0 l0.length l0) (hc0 : l0.length ≤ c0) (h : spec_DrawSignalText.f l0 = some (r1, r2, r3)) :
  Calls Tryz.prog 31 #[.slice A0 l0.length c0] w fun e w' => e = .returned (.agg #[.int .i64 r1, .bool r2, .int .i64 r3]) ∧ Below w.heap.size w w' := by
 have hu36 := Tryz.underlying36
 have hu59 := Tryz.underlying59
 have HR0 := Aside0.mk hr0
 have HC0 := Aside0.mk hc0
 clear hr0 hc0
 have HB := Aside0.mk (Below.refl w.heap.size w)
 unfold spec_DrawSignalText.f at h
 have H := h
 clear h
 replace H := Option.bind_eq_some_iff.mp H
 obtain ⟨⟨t487, t488, t489, t490, t491, t492⟩, A20, H⟩ := H
 (try dsimp only at H)
 have A2 := Aside0.mk A20
 clear A20
 simp only [Option.some.injEq, Prod.mk.injEq] at H
 obtain ⟨rfl, rfl, rfl⟩ := H
 go_enter Tryz.func31, Tryz.ntmps31
 go_wp2_with (first | ((with_reducible refine gate_dst (N := 2) rfl ?_); refine bx 2 36 #[.int .i64 0, .bool false, .int .i64 0] ?_; intro gb485 hg w3 hbox hb; have BK485 := hbox; have GW485 := gs hg; have GE485 := gs hg; replace HB := bs hb; clear hb hbox hg) | ((with_reducible refine gate_dst (N := 8) rfl ?_); refine box_event ?hg (N := 8) ?hd (cs := #[.slice A0 l0.length c0, .int .i64 0, .int .u64 0]) (t := 59) ?hr ?_; (case hd => rfl); (case hg => rfl); (case hr => first | (go_simp; done) | (go_simp; rfl)); intro gb486 hg w4 hbox hb; have GW486 := gs hg; have GE486 := gs hg; have NB485_486 := nl BK485 hg; have NB486_485 := ng BK485 hg; replace BK485 := nk BK485 hb; have HI486 := Aside0.mk ((show IsS59 w _ gb486 l0 0 0 from ⟨_, _, hbox, (by rw [hg]; exact (below_size bw)), HR0.out⟩)); replace HB := bs hb; clear hb hbox hg) | ((with_reducible refine gate_callee (f := 64) rfl ?_); refine gl (some 11) Tryz.func64 #[.pointer (some ⟨gb486, 0, none⟩)] ?_; (with_reducible refine (spec_l1Cur_signal.calls gb486 l0 0 0 t487 t488 t489 t490 t491 t492 w _ ?side1 ?side2 A2.out).mono ?_); (case side1 => exact hi59); (case side2 => exact hb59); rintro e w5 ⟨rfl, hi, hb, hk⟩; refine ⟨_, rfl, ?_⟩; replace BK485 := Aside0.mk (KeepBut.blk hk (g' := gb485) (o := .cells #[.int .i64 0, .bool false, .int .i64 0] 36 (0, 0)) (pk BK485) NB485_486.out (by simp)); replace HB := Aside0.mk (hb); replace HI486 := Aside0.mk (hi); (try clear hb)) | ((with_reducible refine gate_dst (N := 5) rfl ?_); refine bx 5 36 #[.int .i64 0, .bool false, .int .i64 0] ?_; intro gb493 hg w6 hbox hb; have BK493 := hbox; have GW493 := Aside0.mk ((by rw [hg]; exact (below_size hb59) : w.heap.size ≤ gb493)); have GE493 := Aside0.mk ((by rw [hg]; exact (below_size hb59) : w.heap.size ≤ gb493)); replace HB := bt59 HB hb; have NB485_493 := nl BK485 hg; have NB493_485 := ng BK485 hg; replace BK485 := nk BK485 hb; have NB486_493 := Aside0.mk ((by rw [hg]; exact Nat.ne_of_lt (IsS59.lt (show IsS59 w _ gb486 l0 t491 t492 from hi59)) : gb486 ≠ gb493)); have NB493_486 := Aside0.mk ((by rw [hg]; exact Nat.ne_of_gt (IsS59.lt (show IsS59 w _ gb486 l0 t491 t492 from hi59)) : gb493 ≠ gb486)); replace HI486 := ib59 HI486 hb; clear hb hbox hg; have hnb7 := NB493_485.out; have hnc7 := NB485_493.out; have hnb8 := NB493_486.out; have hnc8 := NB486_493.out; have hcz9_0 := bc BK493 0 (.int .i64 0); have hcz9_1 := bc BK493 1 (.bool false); have hcz9_2 := bc BK493 2 (.int .i64 0); have hfz9_0 := blk_frozen BK493.out 0; have hfz9_1 := blk_frozen BK493.out 1; have hfz9_2 := blk_frozen BK493.out 2; have hnb10 := NB485_486.out; have hnc10 := NB486_485.out; have hcz11_0 := bc BK485 0 (.int .i64 0); have hcz11_1 := bc BK485 1 (.bool false); have hcz11_2 := bc BK485 2 (.int .i64 0); have hfz11_0 := blk_frozen BK485.out 0; have hfz11_1 := blk_frozen BK485.out 1; have hfz11_2 := blk_frozen BK485.out 2))
 refine bodyPost_ret (results_cell_row rfl _ _ gb485 36 #[.int .i64 t488, .bool t489, .int .i64 t490] (0, 0) _ rfl (by (with_reducible repeat (first | refine blk_drewN ?_ _ | refine blk_drew ?_ | refine blk_alloc ?_ _)); refine blk_put (cs := #[.int .i64 t488, .bool t489, .int .i64 0]) ?_ 2 _ rfl; (with_reducible repeat (first | refine blk_drewN ?_ _ | refine blk_drew ?_ | refine blk_alloc ?_ _)); refine blk_put (cs := #[.int .i64 t488, .bool false, .int .i64 0]) ?_ 1 _ rfl; (with_reducible repeat (first | refine blk_drewN ?_ _ | refine blk_drew ?_ | refine blk_alloc ?_ _)); refine blk_put (cs := #[.int .i64 0, .bool false, .int .i64 0]) ?_ 0 _ rfl; (with_reducible repeat (first | refine blk_drewN ?_ _ | refine blk_drew ?_ | refine blk_alloc ?_ _)); refine blk_far ?_ NB485_493.out _; (with_reducible repeat (first | refine blk_drewN ?_ _ | refine blk_drew ?_ | refine blk_alloc ?_ _)); refine blk_far ?_ NB485_493.out _; (with_reducible repeat (first | refine blk_drewN ?_ _ | refine blk_drew ?_ | refine blk_alloc ?_ _)); refine blk_far ?_ NB485_493.out _; (with_reducible repeat (first | refine blk_drewN ?_ _ | refine blk_drew ?_ | refine blk_alloc ?_ _)); exact BK485.out) Tryz.underlying36 rfl (by kernel_rfl)) rfl ?_
 exact ⟨rs, hb59⟩

/-! ### strconv_Itoa: function 90 -/
def strconv_Itoa.f (a0 : Int) : Option ByteArray := if 0 ≤ a0 ∧ a0 < 100 then some ⟨(Lib.decDigits a0.toNat).toArray⟩ else none
theorem strconv_Itoa.calls (a0 : Int) (r : ByteArray) (w : World) (h : strconv_Itoa.f a0 = some r) :
  Calls Tryz.prog 90 #[.int .i64 a0] w fun e w' => e = .returned (.string r) ∧ Below w.heap.size w w' := by
 unfold strconv_Itoa.f at h
 split at h
 ·next hc =>
  obtain rfl := Option.some.inj h
  obtain ⟨i, rfl⟩ : ∃ i : Nat, a0 = i := ⟨a0.toNat, by omega⟩
  have c : Calls Tryz.prog 90 #[.int .i64 (i : Int)] w _ := Any.strconv_Itoa_small Tryz.lays171 i (by omega) w
  exact c.mono fun e w' ⟨h1, h2⟩ => ⟨by rw [h1, Int.toNat_natCast], h2 ▸ Below.refl _ _⟩
 ·cases h

end Go.Proofs.YtmhbcfdodcnjmaaGreatDoor.PFnSignalsReach
