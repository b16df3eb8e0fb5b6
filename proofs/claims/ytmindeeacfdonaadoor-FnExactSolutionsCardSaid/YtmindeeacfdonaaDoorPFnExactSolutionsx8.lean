-- Laid by xprint, a program of this session that runs over the kit's print.
import Derived.Test.YtmindeeacfdonaaDoorPFnExactSolutionsx0
import Derived.Test.YtmindeeacfdonaaDoorPFnExactSolutionsx1
import Derived.Test.YtmindeeacfdonaaDoorPFnExactSolutionsx6
import Derived.Test.YtmindeeacfdonaaDoorPFnExactSolutionsx7
namespace Go.Proofs.YtmindeeacfdonaaDoor.PFnExactSolutions
open Go.RowKit Go.Proofs.YtmindeeacfdonaaDoorW.PrintWords Go.Proofs.YtmindeeacfdonaaDoorW.PrintLast Go.Proofs.YtmindeeacfdonaaDoorW.PrintMore Go.Proofs.YtmindeeacfdonaaDoor.Sq
attribute [local go_sem] max2_int min2_int max_two min_two max_three min_three max_four min_four   -- for this text's walks alone
set_option linter.unusedVariables false
set_option linter.unusedSimpArgs false

attribute [local go_sem high] eqA33
/-! ### impl_Clue_told: function 67 -/
def impl_Clue_told.f (k : Nat) (a0_0 : Int) (a0_1 : Int) (a0_2 : Int) (a0_3 : Int) (a1 : ByteArray) : Option (Int × Int × Int × Int) := if a0_0 = 0 then ((impl_RowAfter.f k a1 a0_2).bind fun bt223 => (if 0 ≤ a0_1 then (if a0_1 < (bt223.1.size : Int) then (if (bt bt223.1 a0_1) = 62 then (some (a0_0, a0_1, a0_2, 1)) else (some (a0_0, a0_1, a0_2, 0))) else (none)) else (none))) else (if a0_0 = 1 then ((strings_Count.f a1 (⟨#[62]⟩ : ByteArray)).bind fun t225 => (some (a0_0, a0_1, a0_2, t225))) else (if a0_0 = 2 then ((impl_ticksToRest.f k a1).bind fun t226 => (some (a0_0, a0_1, a0_2, t226))) else (if a0_0 = 3 then ((impl_facing.f k a1).bind fun t227 => (some (a0_0, a0_1, a0_2, (t227.length : Int)))) else (if a0_0 = 4 then ((impl_TurnsOfEach.f k a1).bind fun bt230 => (if 0 ≤ a0_1 then (if a0_1 < (bt230.1.length : Int) then (some (a0_0, a0_1, a0_2, rd bt230.1 a0_1)) else (none)) else (none))) else (some (a0_0, a0_1, a0_2, a0_3))))))
theorem impl_Clue_told.mono : ∀ a0 a1 a2 a3 a4 k, LeO (impl_Clue_told.f k a0 a1 a2 a3 a4) (impl_Clue_told.f (k + 1) a0 a1 a2 a3 a4) := by
  intro a0 a1 a2 a3 a4 k
  unfold impl_Clue_told.f
  repeat' first
      | (with_reducible exact impl_RowAfter.mono _ _ _)
      | (with_reducible exact impl_TurnsOfEach.mono _ _)
      | (with_reducible exact impl_facing.mono _ _)
      | (with_reducible exact impl_ticksToRest.mono _ _)
      | (with_reducible exact LeO.refl _)
      | (with_reducible exact LeO.none _)
      | (with_reducible refine LeO.ite ?_ ?_)
      | (with_reducible refine LeO.bind ?_ (fun _ => ?_))
      | exact impl_RowAfter.mono _ _ _
      | exact impl_TurnsOfEach.mono _ _
      | exact impl_facing.mono _ _
      | exact impl_ticksToRest.mono _ _
      | exact LeO.none _
      | refine LeO.ite ?_ ?_
      | refine LeO.bind ?_ (fun _ => ?_)
set_option maxHeartbeats 8000000 in
set_option maxRecDepth 100000 in
theorem impl_Clue_told.calls (k : Nat) (a0_0 : Int) (a0_1 : Int) (a0_2 : Int) (a0_3 : Int) (a1 : ByteArray) (r1 : Int) (r2 : Int) (r3 : Int) (r4 : Int) (w : World) (hm : Dr.Tab w) (h : impl_Clue_told.f k a0_0 a0_1 a0_2 a0_3 a1 = some (r1, r2, r3, r4)) :
  Calls Tryd.prog 67 #[.agg #[.int .i64 a0_0, .int .i64 a0_1, .int .i64 a0_2, .int .i64 a0_3], .string a1] w fun e w' => e = .returned (.agg #[.int .i64 r1, .int .i64 r2, .int .i64 r3, .int .i64 r4]) ∧ Below w.heap.size w w' := by
 have hu33 := Tryd.underlying33
 have HB := Aside0.mk (Below.refl w.heap.size w)
 have HMM := Aside0.mk hm
 clear hm
 unfold impl_Clue_told.f at h
 have H := h
 clear h
 by_cases c3 : a0_0 = 0
 ·rw [if_pos c3] at H
  have c3b0 : (a0_0 == 0) = true := beq_iff_eq.mpr c3
  have c3b1 : (a0_0 != 0) = false := bne_eq_false_iff_eq.mpr c3
  clear c3
  replace H := Option.bind_eq_some_iff.mp H
  obtain ⟨⟨t223, t224⟩, A40, H⟩ := H
  (try dsimp only at H)
  have A4 := Aside0.mk A40
  clear A40
  by_cases c5 : 0 ≤ a0_1
  ·rw [if_pos c5] at H
   have c5b0 : decide (0 ≤ a0_1) = true := decide_eq_true c5
   clear c5
   by_cases c6 : a0_1 < (t223.size : Int)
   ·rw [if_pos c6] at H
    have c6b0 : decide (a0_1 < (t223.size : Int)) = true := decide_eq_true c6
    clear c6
    by_cases c8 : (bt t223 a0_1) = 62
    ·rw [if_pos c8] at H
     have c8b0 : ((bt t223 a0_1) == 62) = true := beq_iff_eq.mpr c8
     have c8b1 : ((bt t223 a0_1) != 62) = false := bne_eq_false_iff_eq.mpr c8
     clear c8
     simp only [Option.some.injEq, Prod.mk.injEq] at H
     obtain ⟨rfl, rfl, rfl, rfl⟩ := H
     go_enter Tryd.func67, Tryd.ntmps67
     go_wp2_with (first | ((with_reducible refine gate_dst (N := 2) rfl ?_); refine bx 2 33 #[.int .i64 a0_0, .int .i64 a0_1, .int .i64 a0_2, .int .i64 a0_3] ?_; intro gb221 hg w9 hbox hb; have BK221 := hbox; have GW221 := gs hg; have GE221 := gs hg; replace HB := bs hb; clear hb hbox hg) | ((with_reducible refine gate_dst (N := 4) rfl ?_); refine bx 4 33 #[.int .i64 0, .int .i64 0, .int .i64 0, .int .i64 0] ?_; intro gb222 hg w10 hbox hb; have BK222 := hbox; have GW222 := gs hg; have GE222 := gs hg; replace HB := bs hb; have NB221_222 := nl BK221 hg; have NB222_221 := ng BK221 hg; replace BK221 := nk BK221 hb; clear hb hbox hg; have hnb11 := NB221_222.out; have hnc11 := NB222_221.out; have hcz12_0 := bc BK221 0 (.int .i64 a0_0); have hcz12_1 := bc BK221 1 (.int .i64 a0_1); have hcz12_2 := bc BK221 2 (.int .i64 a0_2); have hcz12_3 := bc BK221 3 (.int .i64 a0_3); have hfz12_0 := blk_frozen BK221.out 0; have hfz12_1 := blk_frozen BK221.out 1; have hfz12_2 := blk_frozen BK221.out 2; have hfz12_3 := blk_frozen BK221.out 3) | ((with_reducible refine gate_callee (f := 87) rfl ?_); refine gl (some 17) Tryd.func87 #[.string a1, .int .i64 a0_2] ?_; (with_reducible refine (impl_RowAfter.calls k a1 a0_2 t223 t224 _ ?side1 A4.out).mono ?_); (case side1 => first | exact HMM.out | exact Dr.Tab.below HMM.out bw | (repeat (first | exact HMM.out | apply Dr.Tab.drewN | apply Dr.Tab.drew | apply Dr.Tab.alloc))); rintro e w13 ⟨rfl, hb⟩; refine ⟨_, rfl, ?_⟩; replace BK221 := nk BK221 hb; replace BK222 := nk BK222 hb; replace HB := bs hb; (try clear hb); have hcz14_0 := bc BK221 0 (.int .i64 a0_0); have hcz14_1 := bc BK221 1 (.int .i64 a0_1); have hcz14_2 := bc BK221 2 (.int .i64 a0_2); have hcz14_3 := bc BK221 3 (.int .i64 a0_3); have hfz14_0 := blk_frozen BK221.out 0; have hfz14_1 := blk_frozen BK221.out 1; have hfz14_2 := blk_frozen BK221.out 2; have hfz14_3 := blk_frozen BK221.out 3; have p7 : 0 ≤ (a0_1 : Int) := of_decide_eq_true (by first | (with_reducible assumption) | assumption); have q7 : a0_1 < (t223.size : Int) := of_decide_eq_true (by first | (with_reducible assumption) | assumption); have hx7 := bt_at t223 a0_1; replace p7 := eq_true p7; replace q7 := eq_true q7; have hcz15_0 := bc BK222 0 (.int .i64 0); have hcz15_1 := bc BK222 1 (.int .i64 0); have hcz15_2 := bc BK222 2 (.int .i64 0); have hcz15_3 := bc BK222 3 (.int .i64 0); have hfz15_0 := blk_frozen BK222.out 0; have hfz15_1 := blk_frozen BK222.out 1; have hfz15_2 := blk_frozen BK222.out 2; have hfz15_3 := blk_frozen BK222.out 3))
     refine bodyPost_ret (results_cell_row rfl _ _ gb222 33 #[.int .i64 a0_0, .int .i64 a0_1, .int .i64 a0_2, .int .i64 1] (0, 0) _ rfl (by (with_reducible repeat (first | refine blk_drewN ?_ _ | refine blk_drew ?_ | refine blk_alloc ?_ _)); refine blk_put (cs := #[.int .i64 a0_0, .int .i64 a0_1, .int .i64 a0_2, .int .i64 0]) ?_ 3 _ rfl; (with_reducible repeat (first | refine blk_drewN ?_ _ | refine blk_drew ?_ | refine blk_alloc ?_ _)); refine blk_put (cs := #[.int .i64 a0_0, .int .i64 a0_1, .int .i64 0, .int .i64 0]) ?_ 2 _ rfl; (with_reducible repeat (first | refine blk_drewN ?_ _ | refine blk_drew ?_ | refine blk_alloc ?_ _)); refine blk_put (cs := #[.int .i64 a0_0, .int .i64 0, .int .i64 0, .int .i64 0]) ?_ 1 _ rfl; (with_reducible repeat (first | refine blk_drewN ?_ _ | refine blk_drew ?_ | refine blk_alloc ?_ _)); refine blk_put (cs := #[.int .i64 0, .int .i64 0, .int .i64 0, .int .i64 0]) ?_ 0 _ rfl; (with_reducible repeat (first | refine blk_drewN ?_ _ | refine blk_drew ?_ | refine blk_alloc ?_ _)); refine blk_far ?_ NB222_221.out _; (with_reducible repeat (first | refine blk_drewN ?_ _ | refine blk_drew ?_ | refine blk_alloc ?_ _)); refine blk_far ?_ NB222_221.out _; (with_reducible repeat (first | refine blk_drewN ?_ _ | refine blk_drew ?_ | refine blk_alloc ?_ _)); exact BK222.out) Tryd.underlying33 rfl (by kernel_rfl)) rfl ?_
     exact ⟨rs, bw⟩
    ·rw [if_neg c8] at H
     have c8b0 : ((bt t223 a0_1) == 62) = false := beq_eq_false_iff_ne.mpr c8
     have c8b1 : ((bt t223 a0_1) != 62) = true := bne_iff_ne.mpr c8
     simp only [Option.some.injEq, Prod.mk.injEq] at H
     obtain ⟨rfl, rfl, rfl, rfl⟩ := H
     go_enter Tryd.func67, Tryd.ntmps67
     go_wp2_with (first | ((with_reducible refine gate_dst (N := 2) rfl ?_); refine bx 2 33 #[.int .i64 a0_0, .int .i64 a0_1, .int .i64 a0_2, .int .i64 a0_3] ?_; intro gb221 hg w16 hbox hb; have BK221 := hbox; have GW221 := gs hg; have GE221 := gs hg; replace HB := bs hb; clear hb hbox hg) | ((with_reducible refine gate_dst (N := 4) rfl ?_); refine bx 4 33 #[.int .i64 0, .int .i64 0, .int .i64 0, .int .i64 0] ?_; intro gb222 hg w17 hbox hb; have BK222 := hbox; have GW222 := gs hg; have GE222 := gs hg; replace HB := bs hb; have NB221_222 := nl BK221 hg; have NB222_221 := ng BK221 hg; replace BK221 := nk BK221 hb; clear hb hbox hg; have hnb18 := NB221_222.out; have hnc18 := NB222_221.out; have hcz19_0 := bc BK221 0 (.int .i64 a0_0); have hcz19_1 := bc BK221 1 (.int .i64 a0_1); have hcz19_2 := bc BK221 2 (.int .i64 a0_2); have hcz19_3 := bc BK221 3 (.int .i64 a0_3); have hfz19_0 := blk_frozen BK221.out 0; have hfz19_1 := blk_frozen BK221.out 1; have hfz19_2 := blk_frozen BK221.out 2; have hfz19_3 := blk_frozen BK221.out 3) | ((with_reducible refine gate_callee (f := 87) rfl ?_); refine gl (some 17) Tryd.func87 #[.string a1, .int .i64 a0_2] ?_; (with_reducible refine (impl_RowAfter.calls k a1 a0_2 t223 t224 _ ?side1 A4.out).mono ?_); (case side1 => first | exact HMM.out | exact Dr.Tab.below HMM.out bw | (repeat (first | exact HMM.out | apply Dr.Tab.drewN | apply Dr.Tab.drew | apply Dr.Tab.alloc))); rintro e w20 ⟨rfl, hb⟩; refine ⟨_, rfl, ?_⟩; replace BK221 := nk BK221 hb; replace BK222 := nk BK222 hb; replace HB := bs hb; (try clear hb); have hcz21_0 := bc BK221 0 (.int .i64 a0_0); have hcz21_1 := bc BK221 1 (.int .i64 a0_1); have hcz21_2 := bc BK221 2 (.int .i64 a0_2); have hcz21_3 := bc BK221 3 (.int .i64 a0_3); have hfz21_0 := blk_frozen BK221.out 0; have hfz21_1 := blk_frozen BK221.out 1; have hfz21_2 := blk_frozen BK221.out 2; have hfz21_3 := blk_frozen BK221.out 3; have p7 : 0 ≤ (a0_1 : Int) := of_decide_eq_true (by first | (with_reducible assumption) | assumption); have q7 : a0_1 < (t223.size : Int) := of_decide_eq_true (by first | (with_reducible assumption) | assumption); have hx7 := bt_at t223 a0_1; replace p7 := eq_true p7; replace q7 := eq_true q7; have hcz22_0 := bc BK222 0 (.int .i64 0); have hcz22_1 := bc BK222 1 (.int .i64 0); have hcz22_2 := bc BK222 2 (.int .i64 0); have hcz22_3 := bc BK222 3 (.int .i64 0); have hfz22_0 := blk_frozen BK222.out 0; have hfz22_1 := blk_frozen BK222.out 1; have hfz22_2 := blk_frozen BK222.out 2; have hfz22_3 := blk_frozen BK222.out 3))
     refine bodyPost_ret (results_cell_row rfl _ _ gb222 33 #[.int .i64 a0_0, .int .i64 a0_1, .int .i64 a0_2, .int .i64 0] (0, 0) _ rfl (by (with_reducible repeat (first | refine blk_drewN ?_ _ | refine blk_drew ?_ | refine blk_alloc ?_ _)); refine blk_put (cs := #[.int .i64 a0_0, .int .i64 a0_1, .int .i64 a0_2, .int .i64 0]) ?_ 3 _ rfl; (with_reducible repeat (first | refine blk_drewN ?_ _ | refine blk_drew ?_ | refine blk_alloc ?_ _)); refine blk_put (cs := #[.int .i64 a0_0, .int .i64 a0_1, .int .i64 0, .int .i64 0]) ?_ 2 _ rfl; (with_reducible repeat (first | refine blk_drewN ?_ _ | refine blk_drew ?_ | refine blk_alloc ?_ _)); refine blk_put (cs := #[.int .i64 a0_0, .int .i64 0, .int .i64 0, .int .i64 0]) ?_ 1 _ rfl; (with_reducible repeat (first | refine blk_drewN ?_ _ | refine blk_drew ?_ | refine blk_alloc ?_ _)); refine blk_put (cs := #[.int .i64 0, .int .i64 0, .int .i64 0, .int .i64 0]) ?_ 0 _ rfl; (with_reducible repeat (first | refine blk_drewN ?_ _ | refine blk_drew ?_ | refine blk_alloc ?_ _)); refine blk_far ?_ NB222_221.out _; (with_reducible repeat (first | refine blk_drewN ?_ _ | refine blk_drew ?_ | refine blk_alloc ?_ _)); exact BK222.out) Tryd.underlying33 rfl (by kernel_rfl)) rfl ?_
     exact ⟨rs, bw⟩
   ·rw [if_neg c6] at H
    exact absurd H (by simp)
  ·rw [if_neg c5] at H
   exact absurd H (by simp)
 ·rw [if_neg c3] at H
  have c3b0 : (a0_0 == 0) = false := beq_eq_false_iff_ne.mpr c3
  have c3b1 : (a0_0 != 0) = true := bne_iff_ne.mpr c3
  by_cases c23 : a0_0 = 1
  ·rw [if_pos c23] at H
   have c23b0 : (a0_0 == 1) = true := beq_iff_eq.mpr c23
   have c23b1 : (a0_0 != 1) = false := bne_eq_false_iff_eq.mpr c23
   clear c23
   replace H := Option.bind_eq_some_iff.mp H
   obtain ⟨t225, A240, H⟩ := H
   (try dsimp only at H)
   have A24 := Aside0.mk A240
   clear A240
   simp only [Option.some.injEq, Prod.mk.injEq] at H
   obtain ⟨rfl, rfl, rfl, rfl⟩ := H
   go_enter Tryd.func67, Tryd.ntmps67
   go_wp2_with (first | ((with_reducible refine gate_dst (N := 2) rfl ?_); refine bx 2 33 #[.int .i64 a0_0, .int .i64 a0_1, .int .i64 a0_2, .int .i64 a0_3] ?_; intro gb221 hg w25 hbox hb; have BK221 := hbox; have GW221 := gs hg; have GE221 := gs hg; replace HB := bs hb; clear hb hbox hg) | ((with_reducible refine gate_dst (N := 4) rfl ?_); refine bx 4 33 #[.int .i64 0, .int .i64 0, .int .i64 0, .int .i64 0] ?_; intro gb222 hg w26 hbox hb; have BK222 := hbox; have GW222 := gs hg; have GE222 := gs hg; replace HB := bs hb; have NB221_222 := nl BK221 hg; have NB222_221 := ng BK221 hg; replace BK221 := nk BK221 hb; clear hb hbox hg; have hnb27 := NB221_222.out; have hnc27 := NB222_221.out; have hcz28_0 := bc BK221 0 (.int .i64 a0_0); have hcz28_1 := bc BK221 1 (.int .i64 a0_1); have hcz28_2 := bc BK221 2 (.int .i64 a0_2); have hcz28_3 := bc BK221 3 (.int .i64 a0_3); have hfz28_0 := blk_frozen BK221.out 0; have hfz28_1 := blk_frozen BK221.out 1; have hfz28_2 := blk_frozen BK221.out 2; have hfz28_3 := blk_frozen BK221.out 3) | ((with_reducible refine gate_callee (f := 88) rfl ?_); refine gl (some 30) Tryd.func88 #[.string a1, .string (⟨#[62]⟩ : ByteArray)] ?_; (with_reducible refine (strings_Count.calls a1 (⟨#[62]⟩ : ByteArray) t225 _ A24.out).mono ?_); rintro e w29 ⟨rfl, hb⟩; refine ⟨_, rfl, ?_⟩; replace BK221 := nk BK221 hb; replace BK222 := nk BK222 hb; replace HB := bs hb; (try clear hb); have hcz30_0 := bc BK221 0 (.int .i64 a0_0); have hcz30_1 := bc BK221 1 (.int .i64 a0_1); have hcz30_2 := bc BK221 2 (.int .i64 a0_2); have hcz30_3 := bc BK221 3 (.int .i64 a0_3); have hfz30_0 := blk_frozen BK221.out 0; have hfz30_1 := blk_frozen BK221.out 1; have hfz30_2 := blk_frozen BK221.out 2; have hfz30_3 := blk_frozen BK221.out 3; have hcz31_0 := bc BK222 0 (.int .i64 0); have hcz31_1 := bc BK222 1 (.int .i64 0); have hcz31_2 := bc BK222 2 (.int .i64 0); have hcz31_3 := bc BK222 3 (.int .i64 0); have hfz31_0 := blk_frozen BK222.out 0; have hfz31_1 := blk_frozen BK222.out 1; have hfz31_2 := blk_frozen BK222.out 2; have hfz31_3 := blk_frozen BK222.out 3))
   refine bodyPost_ret (results_cell_row rfl _ _ gb222 33 #[.int .i64 a0_0, .int .i64 a0_1, .int .i64 a0_2, .int .i64 t225] (0, 0) _ rfl (by (with_reducible repeat (first | refine blk_drewN ?_ _ | refine blk_drew ?_ | refine blk_alloc ?_ _)); refine blk_put (cs := #[.int .i64 a0_0, .int .i64 a0_1, .int .i64 a0_2, .int .i64 0]) ?_ 3 _ rfl; (with_reducible repeat (first | refine blk_drewN ?_ _ | refine blk_drew ?_ | refine blk_alloc ?_ _)); refine blk_put (cs := #[.int .i64 a0_0, .int .i64 a0_1, .int .i64 0, .int .i64 0]) ?_ 2 _ rfl; (with_reducible repeat (first | refine blk_drewN ?_ _ | refine blk_drew ?_ | refine blk_alloc ?_ _)); refine blk_put (cs := #[.int .i64 a0_0, .int .i64 0, .int .i64 0, .int .i64 0]) ?_ 1 _ rfl; (with_reducible repeat (first | refine blk_drewN ?_ _ | refine blk_drew ?_ | refine blk_alloc ?_ _)); refine blk_put (cs := #[.int .i64 0, .int .i64 0, .int .i64 0, .int .i64 0]) ?_ 0 _ rfl; (with_reducible repeat (first | refine blk_drewN ?_ _ | refine blk_drew ?_ | refine blk_alloc ?_ _)); refine blk_far ?_ NB222_221.out _; (with_reducible repeat (first | refine blk_drewN ?_ _ | refine blk_drew ?_ | refine blk_alloc ?_ _)); exact BK222.out) Tryd.underlying33 rfl (by kernel_rfl)) rfl ?_
   exact ⟨rs, bw⟩
  ·rw [if_neg c23] at H
   have c23b0 : (a0_0 == 1) = false := beq_eq_false_iff_ne.mpr c23
   have c23b1 : (a0_0 != 1) = true := bne_iff_ne.mpr c23
   by_cases c32 : a0_0 = 2
   ·rw [if_pos c32] at H
    have c32b0 : (a0_0 == 2) = true := beq_iff_eq.mpr c32
    have c32b1 : (a0_0 != 2) = false := bne_eq_false_iff_eq.mpr c32
    clear c32
    replace H := Option.bind_eq_some_iff.mp H
    obtain ⟨t226, A330, H⟩ := H
    (try dsimp only at H)
    have A33 := Aside0.mk A330
    clear A330
    simp only [Option.some.injEq, Prod.mk.injEq] at H
    obtain ⟨rfl, rfl, rfl, rfl⟩ := H
    go_enter Tryd.func67, Tryd.ntmps67
    go_wp2_with (first | ((with_reducible refine gate_dst (N := 2) rfl ?_); refine bx 2 33 #[.int .i64 a0_0, .int .i64 a0_1, .int .i64 a0_2, .int .i64 a0_3] ?_; intro gb221 hg w34 hbox hb; have BK221 := hbox; have GW221 := gs hg; have GE221 := gs hg; replace HB := bs hb; clear hb hbox hg) | ((with_reducible refine gate_dst (N := 4) rfl ?_); refine bx 4 33 #[.int .i64 0, .int .i64 0, .int .i64 0, .int .i64 0] ?_; intro gb222 hg w35 hbox hb; have BK222 := hbox; have GW222 := gs hg; have GE222 := gs hg; replace HB := bs hb; have NB221_222 := nl BK221 hg; have NB222_221 := ng BK221 hg; replace BK221 := nk BK221 hb; clear hb hbox hg; have hnb36 := NB221_222.out; have hnc36 := NB222_221.out; have hcz37_0 := bc BK221 0 (.int .i64 a0_0); have hcz37_1 := bc BK221 1 (.int .i64 a0_1); have hcz37_2 := bc BK221 2 (.int .i64 a0_2); have hcz37_3 := bc BK221 3 (.int .i64 a0_3); have hfz37_0 := blk_frozen BK221.out 0; have hfz37_1 := blk_frozen BK221.out 1; have hfz37_2 := blk_frozen BK221.out 2; have hfz37_3 := blk_frozen BK221.out 3) | ((with_reducible refine gate_callee (f := 89) rfl ?_); refine gl (some 35) Tryd.func89 #[.string a1] ?_; (with_reducible refine (impl_ticksToRest.calls k a1 t226 _ ?side1 A33.out).mono ?_); (case side1 => first | exact HMM.out | exact Dr.Tab.below HMM.out bw | (repeat (first | exact HMM.out | apply Dr.Tab.drewN | apply Dr.Tab.drew | apply Dr.Tab.alloc))); rintro e w38 ⟨rfl, hb⟩; refine ⟨_, rfl, ?_⟩; replace BK221 := nk BK221 hb; replace BK222 := nk BK222 hb; replace HB := bs hb; (try clear hb); have hcz39_0 := bc BK221 0 (.int .i64 a0_0); have hcz39_1 := bc BK221 1 (.int .i64 a0_1); have hcz39_2 := bc BK221 2 (.int .i64 a0_2); have hcz39_3 := bc BK221 3 (.int .i64 a0_3); have hfz39_0 := blk_frozen BK221.out 0; have hfz39_1 := blk_frozen BK221.out 1; have hfz39_2 := blk_frozen BK221.out 2; have hfz39_3 := blk_frozen BK221.out 3; have hcz40_0 := bc BK222 0 (.int .i64 0); have hcz40_1 := bc BK222 1 (.int .i64 0); have hcz40_2 := bc BK222 2 (.int .i64 0); have hcz40_3 := bc BK222 3 (.int .i64 0); have hfz40_0 := blk_frozen BK222.out 0; have hfz40_1 := blk_frozen BK222.out 1; have hfz40_2 := blk_frozen BK222.out 2; have hfz40_3 := blk_frozen BK222.out 3))
    refine bodyPost_ret (results_cell_row rfl _ _ gb222 33 #[.int .i64 a0_0, .int .i64 a0_1, .int .i64 a0_2, .int .i64 t226] (0, 0) _ rfl (by (with_reducible repeat (first | refine blk_drewN ?_ _ | refine blk_drew ?_ | refine blk_alloc ?_ _)); refine blk_put (cs := #[.int .i64 a0_0, .int .i64 a0_1, .int .i64 a0_2, .int .i64 0]) ?_ 3 _ rfl; (with_reducible repeat (first | refine blk_drewN ?_ _ | refine blk_drew ?_ | refine blk_alloc ?_ _)); refine blk_put (cs := #[.int .i64 a0_0, .int .i64 a0_1, .int .i64 0, .int .i64 0]) ?_ 2 _ rfl; (with_reducible repeat (first | refine blk_drewN ?_ _ | refine blk_drew ?_ | refine blk_alloc ?_ _)); refine blk_put (cs := #[.int .i64 a0_0, .int .i64 0, .int .i64 0, .int .i64 0]) ?_ 1 _ rfl; (with_reducible repeat (first | refine blk_drewN ?_ _ | refine blk_drew ?_ | refine blk_alloc ?_ _)); refine blk_put (cs := #[.int .i64 0, .int .i64 0, .int .i64 0, .int .i64 0]) ?_ 0 _ rfl; (with_reducible repeat (first | refine blk_drewN ?_ _ | refine blk_drew ?_ | refine blk_alloc ?_ _)); refine blk_far ?_ NB222_221.out _; (with_reducible repeat (first | refine blk_drewN ?_ _ | refine blk_drew ?_ | refine blk_alloc ?_ _)); exact BK222.out) Tryd.underlying33 rfl (by kernel_rfl)) rfl ?_
    exact ⟨rs, bw⟩
   ·rw [if_neg c32] at H
    have c32b0 : (a0_0 == 2) = false := beq_eq_false_iff_ne.mpr c32
    have c32b1 : (a0_0 != 2) = true := bne_iff_ne.mpr c32
    by_cases c41 : a0_0 = 3
    ·rw [if_pos c41] at H
     have c41b0 : (a0_0 == 3) = true := beq_iff_eq.mpr c41
     have c41b1 : (a0_0 != 3) = false := bne_eq_false_iff_eq.mpr c41
     clear c41
     replace H := Option.bind_eq_some_iff.mp H
     obtain ⟨t227, A420, H⟩ := H
     (try dsimp only at H)
     have A42 := Aside0.mk A420
     clear A420
     simp only [Option.some.injEq, Prod.mk.injEq] at H
     obtain ⟨rfl, rfl, rfl, rfl⟩ := H
     go_enter Tryd.func67, Tryd.ntmps67
     go_wp2_with (first | ((with_reducible refine gate_dst (N := 2) rfl ?_); refine bx 2 33 #[.int .i64 a0_0, .int .i64 a0_1, .int .i64 a0_2, .int .i64 a0_3] ?_; intro gb221 hg w43 hbox hb; have BK221 := hbox; have GW221 := gs hg; have GE221 := gs hg; replace HB := bs hb; clear hb hbox hg) | ((with_reducible refine gate_dst (N := 4) rfl ?_); refine bx 4 33 #[.int .i64 0, .int .i64 0, .int .i64 0, .int .i64 0] ?_; intro gb222 hg w44 hbox hb; have BK222 := hbox; have GW222 := gs hg; have GE222 := gs hg; replace HB := bs hb; have NB221_222 := nl BK221 hg; have NB222_221 := ng BK221 hg; replace BK221 := nk BK221 hb; clear hb hbox hg; have hnb45 := NB221_222.out; have hnc45 := NB222_221.out; have hcz46_0 := bc BK221 0 (.int .i64 a0_0); have hcz46_1 := bc BK221 1 (.int .i64 a0_1); have hcz46_2 := bc BK221 2 (.int .i64 a0_2); have hcz46_3 := bc BK221 3 (.int .i64 a0_3); have hfz46_0 := blk_frozen BK221.out 0; have hfz46_1 := blk_frozen BK221.out 1; have hfz46_2 := blk_frozen BK221.out 2; have hfz46_3 := blk_frozen BK221.out 3) | ((with_reducible refine gate_callee (f := 90) rfl ?_); refine gl (some 40) Tryd.func90 #[.string a1] ?_; (with_reducible refine (impl_facing.calls k a1 t227 _ A42.out).mono ?_); rintro e w47 ⟨v228, rfl, ho0, hb⟩; refine ⟨_, rfl, ?_⟩; have HO229 := Aside0.mk (Kd.R_lower ho0 (below_size bw)); replace BK221 := nk BK221 hb; replace BK222 := nk BK222 hb; replace HB := bs hb; (try clear hb); (try clear ho0); obtain ⟨Ao48, co48, eo48⟩ := Kd.R_slice HO229.out; subst eo48; have hcz49_0 := bc BK221 0 (.int .i64 a0_0); have hcz49_1 := bc BK221 1 (.int .i64 a0_1); have hcz49_2 := bc BK221 2 (.int .i64 a0_2); have hcz49_3 := bc BK221 3 (.int .i64 a0_3); have hfz49_0 := blk_frozen BK221.out 0; have hfz49_1 := blk_frozen BK221.out 1; have hfz49_2 := blk_frozen BK221.out 2; have hfz49_3 := blk_frozen BK221.out 3; have hcz50_0 := bc BK222 0 (.int .i64 0); have hcz50_1 := bc BK222 1 (.int .i64 0); have hcz50_2 := bc BK222 2 (.int .i64 0); have hcz50_3 := bc BK222 3 (.int .i64 0); have hfz50_0 := blk_frozen BK222.out 0; have hfz50_1 := blk_frozen BK222.out 1; have hfz50_2 := blk_frozen BK222.out 2; have hfz50_3 := blk_frozen BK222.out 3))
     refine bodyPost_ret (results_cell_row rfl _ _ gb222 33 #[.int .i64 a0_0, .int .i64 a0_1, .int .i64 a0_2, .int .i64 (t227.length : Int)] (0, 0) _ rfl (by (with_reducible repeat (first | refine blk_drewN ?_ _ | refine blk_drew ?_ | refine blk_alloc ?_ _)); refine blk_put (cs := #[.int .i64 a0_0, .int .i64 a0_1, .int .i64 a0_2, .int .i64 0]) ?_ 3 _ rfl; (with_reducible repeat (first | refine blk_drewN ?_ _ | refine blk_drew ?_ | refine blk_alloc ?_ _)); refine blk_put (cs := #[.int .i64 a0_0, .int .i64 a0_1, .int .i64 0, .int .i64 0]) ?_ 2 _ rfl; (with_reducible repeat (first | refine blk_drewN ?_ _ | refine blk_drew ?_ | refine blk_alloc ?_ _)); refine blk_put (cs := #[.int .i64 a0_0, .int .i64 0, .int .i64 0, .int .i64 0]) ?_ 1 _ rfl; (with_reducible repeat (first | refine blk_drewN ?_ _ | refine blk_drew ?_ | refine blk_alloc ?_ _)); refine blk_put (cs := #[.int .i64 0, .int .i64 0, .int .i64 0, .int .i64 0]) ?_ 0 _ rfl; (with_reducible repeat (first | refine blk_drewN ?_ _ | refine blk_drew ?_ | refine blk_alloc ?_ _)); refine blk_far ?_ NB222_221.out _; (with_reducible repeat (first | refine blk_drewN ?_ _ | refine blk_drew ?_ | refine blk_alloc ?_ _)); exact BK222.out) Tryd.underlying33 rfl (by kernel_rfl)) rfl ?_
     exact ⟨rs, bw⟩
    ·rw [if_neg c41] at H
     have c41b0 : (a0_0 == 3) = false := beq_eq_false_iff_ne.mpr c41
     have c41b1 : (a0_0 != 3) = true := bne_iff_ne.mpr c41
     by_cases c51 : a0_0 = 4
     ·rw [if_pos c51] at H
      have c51b0 : (a0_0 == 4) = true := beq_iff_eq.mpr c51
      have c51b1 : (a0_0 != 4) = false := bne_eq_false_iff_eq.mpr c51
      clear c51
      replace H := Option.bind_eq_some_iff.mp H
      obtain ⟨⟨t230, t231⟩, A520, H⟩ := H
      (try dsimp only at H)
      have A52 := Aside0.mk A520
      clear A520
      by_cases c53 : 0 ≤ a0_1
      ·rw [if_pos c53] at H
       have c53b0 : decide (0 ≤ a0_1) = true := decide_eq_true c53
       clear c53
       by_cases c54 : a0_1 < (t230.length : Int)
       ·rw [if_pos c54] at H
        have c54b0 : decide (a0_1 < (t230.length : Int)) = true := decide_eq_true c54
        clear c54
        simp only [Option.some.injEq, Prod.mk.injEq] at H
        obtain ⟨rfl, rfl, rfl, rfl⟩ := H
        go_enter Tryd.func67, Tryd.ntmps67
        go_wp2_with (first | ((with_reducible refine gate_dst (N := 2) rfl ?_); refine bx 2 33 #[.int .i64 a0_0, .int .i64 a0_1, .int .i64 a0_2, .int .i64 a0_3] ?_; intro gb221 hg w55 hbox hb; have BK221 := hbox; have GW221 := gs hg; have GE221 := gs hg; replace HB := bs hb; clear hb hbox hg) | ((with_reducible refine gate_dst (N := 4) rfl ?_); refine bx 4 33 #[.int .i64 0, .int .i64 0, .int .i64 0, .int .i64 0] ?_; intro gb222 hg w56 hbox hb; have BK222 := hbox; have GW222 := gs hg; have GE222 := gs hg; replace HB := bs hb; have NB221_222 := nl BK221 hg; have NB222_221 := ng BK221 hg; replace BK221 := nk BK221 hb; clear hb hbox hg; have hnb57 := NB221_222.out; have hnc57 := NB222_221.out; have hcz58_0 := bc BK221 0 (.int .i64 a0_0); have hcz58_1 := bc BK221 1 (.int .i64 a0_1); have hcz58_2 := bc BK221 2 (.int .i64 a0_2); have hcz58_3 := bc BK221 3 (.int .i64 a0_3); have hfz58_0 := blk_frozen BK221.out 0; have hfz58_1 := blk_frozen BK221.out 1; have hfz58_2 := blk_frozen BK221.out 2; have hfz58_3 := blk_frozen BK221.out 3) | ((with_reducible refine gate_callee (f := 91) rfl ?_); refine gl (some 47) Tryd.func91 #[.string a1] ?_; (with_reducible refine (impl_TurnsOfEach.calls k a1 t230 t231 _ ?side1 A52.out).mono ?_); (case side1 => first | exact HMM.out | exact Dr.Tab.below HMM.out bw | (repeat (first | exact HMM.out | apply Dr.Tab.drewN | apply Dr.Tab.drew | apply Dr.Tab.alloc))); rintro e w59 ⟨v232, rfl, ho0, hb⟩; refine ⟨_, rfl, ?_⟩; have HO233 := Aside0.mk (Kd.R_lower ho0 (below_size bw)); replace BK221 := nk BK221 hb; replace BK222 := nk BK222 hb; replace HB := bs hb; (try clear hb); (try clear ho0); have hcz60_0 := bc BK221 0 (.int .i64 a0_0); have hcz60_1 := bc BK221 1 (.int .i64 a0_1); have hcz60_2 := bc BK221 2 (.int .i64 a0_2); have hcz60_3 := bc BK221 3 (.int .i64 a0_3); have hfz60_0 := blk_frozen BK221.out 0; have hfz60_1 := blk_frozen BK221.out 1; have hfz60_2 := blk_frozen BK221.out 2; have hfz60_3 := blk_frozen BK221.out 3; obtain ⟨Ao61, co61, eo61⟩ := Kd.R_slice HO233.out; subst eo61; have p234 : 0 ≤ (a0_1 : Int) := of_decide_eq_true (by first | (with_reducible assumption) | assumption); have q234 : a0_1 < (t230.length : Int) := of_decide_eq_true (by first | (with_reducible assumption) | assumption); obtain ⟨ad234, e234, hx234_0⟩ := Kd.at_int (Kd.R_reads' HO233.out).2.2 a0_1 p234 q234; cases e234; replace p234 := eq_true p234; replace q234 := eq_true q234; have hcz62_0 := bc BK222 0 (.int .i64 0); have hcz62_1 := bc BK222 1 (.int .i64 0); have hcz62_2 := bc BK222 2 (.int .i64 0); have hcz62_3 := bc BK222 3 (.int .i64 0); have hfz62_0 := blk_frozen BK222.out 0; have hfz62_1 := blk_frozen BK222.out 1; have hfz62_2 := blk_frozen BK222.out 2; have hfz62_3 := blk_frozen BK222.out 3))
        refine bodyPost_ret (results_cell_row rfl _ _ gb222 33 #[.int .i64 a0_0, .int .i64 a0_1, .int .i64 a0_2, .int .i64 (rd t230 a0_1)] (0, 0) _ rfl (by (with_reducible repeat (first | refine blk_drewN ?_ _ | refine blk_drew ?_ | refine blk_alloc ?_ _)); refine blk_put (cs := #[.int .i64 a0_0, .int .i64 a0_1, .int .i64 a0_2, .int .i64 0]) ?_ 3 _ rfl; (with_reducible repeat (first | refine blk_drewN ?_ _ | refine blk_drew ?_ | refine blk_alloc ?_ _)); refine blk_put (cs := #[.int .i64 a0_0, .int .i64 a0_1, .int .i64 0, .int .i64 0]) ?_ 2 _ rfl; (with_reducible repeat (first | refine blk_drewN ?_ _ | refine blk_drew ?_ | refine blk_alloc ?_ _)); refine blk_put (cs := #[.int .i64 a0_0, .int .i64 0, .int .i64 0, .int .i64 0]) ?_ 1 _ rfl; (with_reducible repeat (first | refine blk_drewN ?_ _ | refine blk_drew ?_ | refine blk_alloc ?_ _)); refine blk_put (cs := #[.int .i64 0, .int .i64 0, .int .i64 0, .int .i64 0]) ?_ 0 _ rfl; (with_reducible repeat (first | refine blk_drewN ?_ _ | refine blk_drew ?_ | refine blk_alloc ?_ _)); refine blk_far ?_ NB222_221.out _; (with_reducible repeat (first | refine blk_drewN ?_ _ | refine blk_drew ?_ | refine blk_alloc ?_ _)); exact BK222.out) Tryd.underlying33 rfl (by kernel_rfl)) rfl ?_
        exact ⟨rs, bw⟩
       ·rw [if_neg c54] at H
        exact absurd H (by simp)
      ·rw [if_neg c53] at H
       exact absurd H (by simp)
     ·rw [if_neg c51] at H
      have c51b0 : (a0_0 == 4) = false := beq_eq_false_iff_ne.mpr c51
      have c51b1 : (a0_0 != 4) = true := bne_iff_ne.mpr c51
      simp only [Option.some.injEq, Prod.mk.injEq] at H
      obtain ⟨rfl, rfl, rfl, rfl⟩ := H
      go_enter Tryd.func67, Tryd.ntmps67
      go_wp2_with (first | ((with_reducible refine gate_dst (N := 2) rfl ?_); refine bx 2 33 #[.int .i64 a0_0, .int .i64 a0_1, .int .i64 a0_2, .int .i64 a0_3] ?_; intro gb221 hg w63 hbox hb; have BK221 := hbox; have GW221 := gs hg; have GE221 := gs hg; replace HB := bs hb; clear hb hbox hg) | ((with_reducible refine gate_dst (N := 4) rfl ?_); refine bx 4 33 #[.int .i64 0, .int .i64 0, .int .i64 0, .int .i64 0] ?_; intro gb222 hg w64 hbox hb; have BK222 := hbox; have GW222 := gs hg; have GE222 := gs hg; replace HB := bs hb; have NB221_222 := nl BK221 hg; have NB222_221 := ng BK221 hg; replace BK221 := nk BK221 hb; clear hb hbox hg; have hnb65 := NB221_222.out; have hnc65 := NB222_221.out; have hcz66_0 := bc BK221 0 (.int .i64 a0_0); have hcz66_1 := bc BK221 1 (.int .i64 a0_1); have hcz66_2 := bc BK221 2 (.int .i64 a0_2); have hcz66_3 := bc BK221 3 (.int .i64 a0_3); have hfz66_0 := blk_frozen BK221.out 0; have hfz66_1 := blk_frozen BK221.out 1; have hfz66_2 := blk_frozen BK221.out 2; have hfz66_3 := blk_frozen BK221.out 3; have hcz67_0 := bc BK222 0 (.int .i64 0); have hcz67_1 := bc BK222 1 (.int .i64 0); have hcz67_2 := bc BK222 2 (.int .i64 0); have hcz67_3 := bc BK222 3 (.int .i64 0); have hfz67_0 := blk_frozen BK222.out 0; have hfz67_1 := blk_frozen BK222.out 1; have hfz67_2 := blk_frozen BK222.out 2; have hfz67_3 := blk_frozen BK222.out 3))
      refine bodyPost_ret (results_cell_row rfl _ _ gb222 33 #[.int .i64 a0_0, .int .i64 a0_1, .int .i64 a0_2, .int .i64 a0_3] (0, 0) _ rfl (by (with_reducible repeat (first | refine blk_drewN ?_ _ | refine blk_drew ?_ | refine blk_alloc ?_ _)); refine blk_put (cs := #[.int .i64 a0_0, .int .i64 a0_1, .int .i64 a0_2, .int .i64 0]) ?_ 3 _ rfl; (with_reducible repeat (first | refine blk_drewN ?_ _ | refine blk_drew ?_ | refine blk_alloc ?_ _)); refine blk_put (cs := #[.int .i64 a0_0, .int .i64 a0_1, .int .i64 0, .int .i64 0]) ?_ 2 _ rfl; (with_reducible repeat (first | refine blk_drewN ?_ _ | refine blk_drew ?_ | refine blk_alloc ?_ _)); refine blk_put (cs := #[.int .i64 a0_0, .int .i64 0, .int .i64 0, .int .i64 0]) ?_ 1 _ rfl; (with_reducible repeat (first | refine blk_drewN ?_ _ | refine blk_drew ?_ | refine blk_alloc ?_ _)); refine blk_put (cs := #[.int .i64 0, .int .i64 0, .int .i64 0, .int .i64 0]) ?_ 0 _ rfl; (with_reducible repeat (first | refine blk_drewN ?_ _ | refine blk_drew ?_ | refine blk_alloc ?_ _)); exact BK222.out) Tryd.underlying33 rfl (by kernel_rfl)) rfl ?_
      exact ⟨rs, bw⟩

/-! ### impl_Clue_fits: function 60 -/
def impl_Clue_fits.f (k : Nat) (a0_0 : Int) (a0_1 : Int) (a0_2 : Int) (a0_3 : Int) (a1 : ByteArray) : Option (Bool) := (impl_Clue_told.f k a0_0 a0_1 a0_2 a0_3 a1).bind fun bt236 => (some (bt236.1 == a0_0 && (bt236.2.1 == a0_1 && (bt236.2.2.1 == a0_2 && (bt236.2.2.2 == a0_3)))))
theorem impl_Clue_fits.mono : ∀ a0 a1 a2 a3 a4 k, LeO (impl_Clue_fits.f k a0 a1 a2 a3 a4) (impl_Clue_fits.f (k + 1) a0 a1 a2 a3 a4) := by
  intro a0 a1 a2 a3 a4 k
  unfold impl_Clue_fits.f
  repeat' first
      | (with_reducible exact impl_Clue_told.mono _ _ _ _ _ _)
      | (with_reducible exact LeO.refl _)
      | (with_reducible exact LeO.none _)
      | (with_reducible refine LeO.ite ?_ ?_)
      | (with_reducible refine LeO.bind ?_ (fun _ => ?_))
      | exact impl_Clue_told.mono _ _ _ _ _ _
      | exact LeO.none _
      | refine LeO.ite ?_ ?_
      | refine LeO.bind ?_ (fun _ => ?_)
set_option maxHeartbeats 8000000 in
set_option maxRecDepth 100000 in
theorem impl_Clue_fits.calls (k : Nat) (a0_0 : Int) (a0_1 : Int) (a0_2 : Int) (a0_3 : Int) (a1 : ByteArray) (r : Bool) (w : World) (hm : Dr.Tab w) (h : impl_Clue_fits.f k a0_0 a0_1 a0_2 a0_3 a1 = some r) :
  Calls Tryd.prog 60 #[.agg #[.int .i64 a0_0, .int .i64 a0_1, .int .i64 a0_2, .int .i64 a0_3], .string a1] w fun e w' => e = .returned (.bool r) ∧ Below w.heap.size w w' := by
 have hu33 := Tryd.underlying33
 have HB := Aside0.mk (Below.refl w.heap.size w)
 have HMM := Aside0.mk hm
 clear hm
 unfold impl_Clue_fits.f at h
 have H := h
 clear h
 replace H := Option.bind_eq_some_iff.mp H
 obtain ⟨⟨t236, t237, t238, t239⟩, A30, H⟩ := H
 (try dsimp only at H)
 have A3 := Aside0.mk A30
 clear A30
 obtain rfl := Option.some.inj H
 go_enter Tryd.func60, Tryd.ntmps60
 try go_wp2_with (first | ((with_reducible refine gate_dst (N := 2) rfl ?_); refine bx 2 33 #[.int .i64 a0_0, .int .i64 a0_1, .int .i64 a0_2, .int .i64 a0_3] ?_; intro gb235 hg w4 hbox hb; have BK235 := hbox; have GW235 := gs hg; have GE235 := gs hg; replace HB := bs hb; clear hb hbox hg))
 replace BK235 := Aside0.mk (blk_drew BK235.out)
 replace HB := Aside0.mk (below_drew1 HB.out)
 refine start_ (n := 6) (S := fun w' => w'.cell? ⟨gb235, 0, none⟩ = some (.int .i64 a0_0) ∧ w'.cell? ⟨gb235, 1, none⟩ = some (.int .i64 a0_1) ∧ w'.cell? ⟨gb235, 2, none⟩ = some (.int .i64 a0_2) ∧ w'.cell? ⟨gb235, 3, none⟩ = some (.int .i64 a0_3)) (ds := []) #[false, false, false, false, false, false] (by kernel_rfl) rfl rfl ⟨ec BK235, ec BK235, ec BK235, ec BK235⟩ (fun hHeld => ?_)
 generalize w4.drew = w5 at BK235 HB hHeld ⊢
 refine pure_ (i := 1) (N := some 6) (v := ?_) (a' := ?_) #[false, true, false, false, false, false] rfl rfl (by kernel_rfl) (fun _ _ _ h => h) (Or.inl ⟨by rfl, ?_⟩) ?_ ?_
 rotate_left
 ·intro w'
  go_simp
  with_reducible rfl
 rotate_left
 ·simp only [Act.put, List.setIfInBounds_toArray, List.set_cons_zero, List.set_cons_succ, i64_w, i32_w]
  rfl
 refine take_ (i := 0) (N := some 5) (v := ?_) (a' := ?_) #[true, true, false, false, false, false] rfl rfl (by kernel_rfl) (fun _ _ _ h => h) (Or.inl ⟨by rfl, ?_⟩) hHeld ?_ ?_
 rotate_left
 ·rintro w' ⟨s0, s1, s2, s3⟩
  go_simp
  with_reducible rfl
 rotate_left
 ·simp only [Act.put, List.setIfInBounds_toArray, List.set_cons_zero, List.set_cons_succ, i64_w, i32_w]
  rfl
 refine take_ (i := 3) (N := some 8) (v := ?_) (a' := ?_) #[true, true, false, true, false, false] rfl rfl (by kernel_rfl) (fun _ _ _ h => h) (Or.inl ⟨by rfl, ?_⟩) hHeld ?_ ?_
 rotate_left
 ·rintro w' ⟨s0, s1, s2, s3⟩
  go_simp
  with_reducible rfl
 rotate_left
 ·simp only [Act.put, List.setIfInBounds_toArray, List.set_cons_zero, List.set_cons_succ, i64_w, i32_w]
  rfl
 refine one_ (i := 2) (N := some 7) #[true, true, true, true, false, false] rfl rfl (by kernel_rfl) (by decide) (fun K hK => ?_)
 refine goes_ Tryd.func67 (by kernel_rfl) rfl #[.agg #[.int .i64 a0_0, .int .i64 a0_1, .int .i64 a0_2, .int .i64 a0_3], .string a1] (by rfl) rfl rfl (by (try simp only [List.map_toArray, List.map_cons, List.map_nil]); first | done | rfl | (simp only [List.length_drop, List.length_take]; rfl)) ?_
 with_reducible refine (impl_Clue_told.calls k a0_0 a0_1 a0_2 a0_3 a1 t236 t237 t238 t239 _ ?side1 A3.out).mono ?_
 (case side1 => first | exact HMM.out | exact Dr.Tab.below HMM.out bw | (repeat (first | exact HMM.out | apply Dr.Tab.drewN | apply Dr.Tab.drew | apply Dr.Tab.alloc)))
 rintro e w6 ⟨rfl, hb⟩
 refine ⟨_, rfl, ?_⟩
 replace BK235 := nk BK235 hb
 replace HB := bs hb
 (try clear hb)
 refine hK.out _ _ ⟨ec BK235, ec BK235, ec BK235, ec BK235⟩ (fun hHeld => ?_)
 clear hK K
 refine nm (some 7) ?_
 refine pure_ (i := 4) (N := some 9) (v := ?_) (a' := ?_) #[true, true, true, true, true, false] rfl rfl (by kernel_rfl) (fun _ _ _ h => h) (Or.inl ⟨by rfl, ?_⟩) ?_ ?_
 rotate_left
 ·intro w'
  go_simp
  with_reducible rfl
 rotate_left
 ·simp only [Act.put, List.setIfInBounds_toArray, List.set_cons_zero, List.set_cons_succ, i64_w, i32_w]
  rfl
 refine pure_ (i := 5) (N := some 4) (v := ?_) (a' := ?_) #[true, true, true, true, true, true] rfl rfl (by kernel_rfl) (fun _ _ _ h => h) (Or.inl ⟨by rfl, ?_⟩) ?_ ?_
 rotate_left
 ·intro w'
  go_simp
  with_reducible rfl
 rotate_left
 ·simp only [Act.put, List.setIfInBounds_toArray, List.set_cons_zero, List.set_cons_succ, i64_w, i32_w]
  rfl
 refine done_ (by kernel_rfl) ?_
 try go_wp2
 go_ret
 exact ⟨rs, bw⟩

/-! ### impl_rowOf: function 97 -/
def impl_rowOf.l0 : Nat → Int → Int → List Int → Int → Int → Option (ByteArray)
  | 0, _, _, _, _, _ => none
  | k + 1, x0, x1, x5, x10, x11 => if x11 < x10 then (if 0 ≤ x11 then (if x11 < (x5.length : Int) then ((some (x5.set (x11 : Int).toNat 60 : List Int)).bind fun y243 => (if 0 ≤ (wrap64 ((wrap64 (x0 - 1)) - x11)) then (if (Go.bits .and .i64 (shr .i64 x1 (wrap64 ((wrap64 (x0 - 1)) - x11))) 1) = 1 then (impl_rowOf.l0 k x0 x1 (y243.set (x11 : Int).toNat 62) x10 (wrap64 (x11 + 1))) else (impl_rowOf.l0 k x0 x1 y243 x10 (wrap64 (x11 + 1)))) else (none))) else (none)) else (none)) else (some (strOfNums x5))
def impl_rowOf.f (k : Nat) (a0 : Int) (a1 : Int) : Option (ByteArray) := if 0 ≤ a0 then (if (a0 : Int).toNat ≤ 281474976710656 then ((some (List.replicate (a0 : Int).toNat 0 : List Int)).bind fun y240 => (impl_rowOf.l0 k a0 a1 y240 (y240.length : Int) 0)) else (none)) else (none)
theorem impl_rowOf.mono_l : ∀ k, (∀ y0 y1 y2 y3 y4, LeO (impl_rowOf.l0 k y0 y1 y2 y3 y4) (impl_rowOf.l0 (k + 1) y0 y1 y2 y3 y4))
  | 0 => fun _ _ _ _ _ r h => by simp [impl_rowOf.l0] at h
  | k + 1 => by
    have ih0 := impl_rowOf.mono_l k
    · intro y0 y1 y2 y3 y4
      unfold impl_rowOf.l0
      repeat' first
      | (with_reducible exact ih0 _ _ _ _ _)
      | (with_reducible exact LeO.refl _)
      | (with_reducible exact LeO.none _)
      | (with_reducible refine LeO.ite ?_ ?_)
      | (with_reducible refine LeO.bind ?_ (fun _ => ?_))
      | exact ih0 _ _ _ _ _
      | exact LeO.none _
      | refine LeO.ite ?_ ?_
      | refine LeO.bind ?_ (fun _ => ?_)
theorem impl_rowOf.mono : ∀ a0 a1 k, LeO (impl_rowOf.f k a0 a1) (impl_rowOf.f (k + 1) a0 a1) := by
  intro a0 a1 k
  have ih0 := impl_rowOf.mono_l k
  unfold impl_rowOf.f
  repeat' first
      | (with_reducible exact ih0 _ _ _ _ _)
      | (with_reducible exact LeO.refl _)
      | (with_reducible exact LeO.none _)
      | (with_reducible refine LeO.ite ?_ ?_)
      | (with_reducible refine LeO.bind ?_ (fun _ => ?_))
      | exact ih0 _ _ _ _ _
      | exact LeO.none _
      | refine LeO.ite ?_ ?_
      | refine LeO.bind ?_ (fun _ => ?_)
set_option maxHeartbeats 8000000 in
set_option maxRecDepth 100000 in
theorem impl_rowOf.calls (k : Nat) (a0 : Int) (a1 : Int) (r : ByteArray) (w : World) (h : impl_rowOf.f k a0 a1 = some r) :
  Calls Tryd.prog 97 #[.int .i64 a0, .int .i64 a1] w fun e w' => e = .returned (.string r) ∧ Below w.heap.size w w' := by
 have HB := Aside0.mk (Below.refl w.heap.size w)
 unfold impl_rowOf.f at h
 have H := h
 clear h
 by_cases c3 : 0 ≤ a0
 ·rw [if_pos c3] at H
  have c3b0 := eq_true c3
  have c3b1 : decide (0 ≤ a0) = true := decide_eq_true c3
  clear c3
  by_cases c4 : (a0 : Int).toNat ≤ 281474976710656
  ·rw [if_pos c4] at H
   have c4b0 := eq_true c4
   have c4b1 : decide ((a0 : Int).toNat ≤ 281474976710656) = true := decide_eq_true c4
   clear c4
   obtain ⟨y240, hy240⟩ : ∃ y_ : List Int, y_ = (List.replicate (a0 : Int).toNat 0) := ⟨_, rfl⟩
   replace H : (impl_rowOf.l0 k a0 a1 y240 (y240.length : Int) 0) = some r := by first | (rw [hy240]; with_reducible exact H) | (have H2_ := (Option.bind_some _ _).symm.trans H; rw [hy240]; with_reducible exact H2_) | (have H2_ := (Option.bind_some _ _).symm.trans H; with_reducible exact H2_) | with_reducible exact H | (rw [hy240]; exact H) | exact H
   have Ny240 := Aside0.mk hy240
   clear hy240
   have H' := Aside0.mk H
   clear H
   go_enter Tryd.func97, Tryd.ntmps97
   go_wp2_with (first | ((with_reducible refine gate_dst (N := 8) rfl ?_); refine Kd.R_make (Kd.int .u8) _ 5 rfl (N := 8) rfl 82 _ _ rfl a0 rfl rfl Tryd.underlying82 (.int .u8 0) 1 info5 rfl (by decide) (by omega) 0 (ok := fun _ => True) (okp := fun _ => True) rfl (fun _ hk => hk) trivial (of_decide_eq_true (by first | (with_reducible assumption) | assumption)) (Nat.le_trans (Nat.mul_le_mul_right _ (of_decide_eq_true (by first | (with_reducible assumption) | assumption) : a0.toNat ≤ 281474976710656)) (by omega)) (Below.refl _ _) (Nat.le_refl _) ?_; intro v241 w5 ho6 hb hg_ hnew_; clear hg_ hnew_; (first | rw [← Ny240.out] at ho6 | (simp only [Int.reduceToNat] at ho6; rw [← Ny240.out] at ho6)); have HO242 := Aside0.mk (Kd.R_lower ho6 (below_size bw)); replace HB := bs hb; clear hb ho6; obtain ⟨Ao7, co7, eo7⟩ := Kd.R_slice HO242.out; subst eo7))
   go_loopg [11] k (fun kq v11 w' => ∃ (x5_1 : List Int) (x11_1 : Int), v11 = .int .i64 x11_1 ∧ Aside0 (impl_rowOf.l0 kq a0 a1 x5_1 (y240.length : Int) x11_1 = some r) ∧ Aside0 (kq ≤ k) ∧ Aside0 (Kd.R (Kd.int .u8) 5 w' w.heap.size (fun _ => True) (.slice Ao7 y240.length co7) x5_1) ∧ Aside0 (Below w.heap.size w w'))
   case atStart => exact ⟨(y240), (0), (rs), H', ⟨Nat.le_refl _⟩, ⟨pr HO242⟩, ⟨bw⟩⟩
   case round =>
    clear H'
    try clear p2
    try clear c3
    try clear c3b0
    try clear c3b1
    try clear c4
    try clear c4b0
    try clear c4b1
    obtain ⟨x5_1, x11_1, rfl, HA, HK1, HO_5, HB⟩ := hrel
    have hl5_1 := (Kd.R_reads' HO_5.out).1
    rw [hl5_1] at HO_5
    (try simp only [hl5_1])
    cases gk with
    | zero => exact absurd HA.out (by simp [impl_rowOf.l0])
    | succ k1 =>
     have H := HA.out
     clear HA
     simp only [impl_rowOf.l0] at H
     by_cases c8 : x11_1 < (y240.length : Int)
     ·rw [if_pos c8] at H
      have c8b0 : decide (x11_1 < (y240.length : Int)) = true := decide_eq_true c8
      (try (have c8b8 := c8b0; rw [hl5_1] at c8b8))
      clear c8
      by_cases c9 : 0 ≤ x11_1
      ·rw [if_pos c9] at H
       have c9b0 : decide (0 ≤ x11_1) = true := decide_eq_true c9
       clear c9
       by_cases c10 : x11_1 < (x5_1.length : Int)
       ·rw [if_pos c10] at H
        have c10b0 : decide (x11_1 < (x5_1.length : Int)) = true := decide_eq_true c10
        clear c10
        obtain ⟨y243, hy243⟩ : ∃ y_ : List Int, y_ = (x5_1.set (x11_1 : Int).toNat 60) := ⟨_, rfl⟩
        replace H : (if 0 ≤ (wrap64 ((wrap64 (a0 - 1)) - x11_1)) then (if (Go.bits .and .i64 (shr .i64 a1 (wrap64 ((wrap64 (a0 - 1)) - x11_1))) 1) = 1 then (impl_rowOf.l0 k1 a0 a1 (y243.set (x11_1 : Int).toNat 62) (y240.length : Int) (wrap64 (x11_1 + 1))) else (impl_rowOf.l0 k1 a0 a1 y243 (y240.length : Int) (wrap64 (x11_1 + 1)))) else (none)) = some r := by first | (rw [hy243]; with_reducible exact H) | (have H2_ := (Option.bind_some _ _).symm.trans H; rw [hy243]; with_reducible exact H2_) | (have H2_ := (Option.bind_some _ _).symm.trans H; with_reducible exact H2_) | with_reducible exact H | (rw [hy243]; exact H) | exact H
        have Ny243 := Aside0.mk hy243
        clear hy243
        obtain ⟨ji12, hji12⟩ : ∃ j_ : Int, (wrap64 ((wrap64 (a0 - 1)) - x11_1)) = j_ := ⟨_, rfl⟩
        replace H : (if 0 ≤ (ji12) then (if (Go.bits .and .i64 (shr .i64 a1 (ji12)) 1) = 1 then (impl_rowOf.l0 k1 a0 a1 (y243.set (x11_1 : Int).toNat 62) (y240.length : Int) (wrap64 (x11_1 + 1))) else (impl_rowOf.l0 k1 a0 a1 y243 (y240.length : Int) (wrap64 (x11_1 + 1)))) else (none)) = some r := by first | (rw [hji12] at H; exact H) | (simp only [hji12] at H ⊢; exact H)
        have hji12w : (IntKind.i64.wrap ((wrap64 (a0 - 1)) - x11_1)) = ji12 := (i64_w _).trans hji12
        by_cases c13 : 0 ≤ (ji12)
        ·rw [if_pos c13] at H
         have c13b0 := eq_true c13
         have c13b1 : decide (0 ≤ (ji12)) = true := decide_eq_true c13
         clear c13
         obtain ⟨ji14, hji14⟩ : ∃ j_ : Int, (shr .i64 a1 (ji12)) = j_ := ⟨_, rfl⟩
         replace H : (if (Go.bits .and .i64 (ji14) 1) = 1 then (impl_rowOf.l0 k1 a0 a1 (y243.set (x11_1 : Int).toNat 62) (y240.length : Int) (wrap64 (x11_1 + 1))) else (impl_rowOf.l0 k1 a0 a1 y243 (y240.length : Int) (wrap64 (x11_1 + 1)))) = some r := by first | (rw [hji14] at H; exact H) | (simp only [hji14] at H ⊢; exact H)
         have hji14_ : (a1 / 2 ^ min (ji12).toNat 64) = ji14 := hji14
         have hji14z : (ji12) ≤ 64 → (a1 / 2 ^ (ji12).toNat) = ji14 := shr_small hji14
         by_cases c15 : (Go.bits .and .i64 (ji14) 1) = 1
         ·rw [if_pos c15] at H
          have c15b0 : ((Go.bits .and .i64 (ji14) 1) == 1) = true := beq_iff_eq.mpr c15
          have c15b1 : ((Go.bits .and .i64 (ji14) 1) != 1) = false := bne_eq_false_iff_eq.mpr c15
          clear c15
          obtain ⟨y244, hy244⟩ : ∃ y_ : List Int, y_ = (y243.set (x11_1 : Int).toNat 62) := ⟨_, rfl⟩
          replace H : (impl_rowOf.l0 k1 a0 a1 y244 (y240.length : Int) (wrap64 (x11_1 + 1))) = some r := by first | (rw [hy244]; with_reducible exact H) | (have H2_ := (Option.bind_some _ _).symm.trans H; rw [hy244]; with_reducible exact H2_) | (have H2_ := (Option.bind_some _ _).symm.trans H; with_reducible exact H2_) | with_reducible exact H | (rw [hy244]; exact H) | exact H
          have Ny244 := Aside0.mk hy244
          clear hy244
          have H' := Aside0.mk H
          clear H
          have p11 : 0 ≤ (x11_1 : Int) := of_decide_eq_true (by first | (with_reducible assumption) | assumption)
          have q11 : (x11_1 : Int) < ((x5_1.length : Int) : Int) := of_decide_eq_true (by first | (with_reducible assumption) | assumption)
          obtain ⟨go11, co11, eo11, gb11, gl11, cl11, HG11⟩ := Kd.R_form HO_5.out (by omega)
          (first | cases eo11 | (injection eo11 with ea_ en_ ec_; (first | subst ea_ | (injection ea_ with ea_; subst ea_)); subst ec_; clear en_))
          have GB11 := Aside0.mk gb11
          have GG11 := Aside0.mk HG11
          clear gb11 gl11 HG11
          obtain ⟨hx11_0, hf11_0⟩ := Kd.R_celln 0 HO_5.out (x11_1 : Int) p11 q11
          replace p11 := eq_true p11
          replace q11 := eq_true q11
          have HP17 := Kd.R_putg HO_5.out (x11_1 : Int) 60
          go_wp2_with (first | ((with_reducible refine gate_store (t := 5) (p := 16) rfl ?_); refine store_event (t := 5) (p := 16) (v := ?vo_w18) (w1 := (wr.setCell ⟨go11, (x11_1 : Int).toNat, none⟩ (.int .u8 60))) ?hg ?ho ?hn ?hr ?_; (case ho => rfl); (case hg => rfl); (case hn => rfl); (case hr => first | (go_simp; done) | (go_simp; rfl)); intro w18 hw; have hg : wr.grownBy w18 (some go11) := (by rw [hw]; exact HP17.2); have hp_ : Kd.R (Kd.int .u8) 5 w18 w.heap.size (fun _ => True) (.slice (some ⟨go11, 0, none⟩) x5_1.length co7) y243 := (by rw [hw, Ny243.out]; exact HP17.1); clear HP17; replace HO_5 := Aside0.mk (hp_); replace HB := Aside0.mk ((by rw [hw]; exact below_set (HB.out) GB11.out : Below w.heap.size w w18)); clear hg hw hp_; have p16 : 0 ≤ (x11_1 : Int) := of_decide_eq_true (by first | (with_reducible assumption) | assumption); have q16 : (x11_1 : Int) < ((x5_1.length : Int) : Int) := of_decide_eq_true (by first | (with_reducible assumption) | assumption); obtain ⟨hx16_0, hf16_0⟩ := Kd.R_celln 0 HO_5.out (x11_1 : Int) p16 q16; replace p16 := eq_true p16; replace q16 := eq_true q16; obtain ⟨hy19_, hz19_⟩ := Kd.R_celln 0 HO_5.out (x11_1 : Int) (of_decide_eq_true (by first | (with_reducible assumption) | assumption)) (of_decide_eq_true (by first | (with_reducible assumption) | assumption)); have HP19 := Kd.R_putg HO_5.out (x11_1 : Int) 62) | ((with_reducible refine gate_store (t := 5) (p := 27) rfl ?_); refine store_event (t := 5) (p := 27) (v := ?vo_w20) (w1 := (w18.setCell ⟨go11, (x11_1 : Int).toNat, none⟩ (.int .u8 62))) ?hg ?ho ?hn ?hr ?_; (case ho => rfl); (case hg => rfl); (case hn => rfl); (case hr => first | (go_simp; done) | (go_simp; rfl)); intro w20 hw; have hg : w18.grownBy w20 (some go11) := (by rw [hw]; exact HP19.2); have hp_ : Kd.R (Kd.int .u8) 5 w20 w.heap.size (fun _ => True) (.slice (some ⟨go11, 0, none⟩) x5_1.length co7) y244 := (by rw [hw, Ny244.out]; exact HP19.1); clear HP19; replace HO_5 := Aside0.mk (hp_); replace HB := Aside0.mk ((by rw [hw]; exact below_set (HB.out) GB11.out : Below w.heap.size w w20)); clear hg hw hp_))
          (try simp only [← hl5_1])
          go_roundg k1
          case measure => have := HK1.out; omega
          case rel => exact ⟨(y244), (wrap64 (x11_1 + 1)), (rs), H', ⟨by have := HK1.out; omega⟩, ⟨by (try simp only [hl5_1]); (with_reducible repeat (first | apply Kd.R_alloc | apply Kd.R_drewN | apply Kd.R_drew)); exact HO_5.out⟩, ⟨bw⟩⟩
         ·rw [if_neg c15] at H
          have c15b0 : ((Go.bits .and .i64 (ji14) 1) == 1) = false := beq_eq_false_iff_ne.mpr c15
          have c15b1 : ((Go.bits .and .i64 (ji14) 1) != 1) = true := bne_iff_ne.mpr c15
          have H' := Aside0.mk H
          clear H
          have p11 : 0 ≤ (x11_1 : Int) := of_decide_eq_true (by first | (with_reducible assumption) | assumption)
          have q11 : (x11_1 : Int) < ((x5_1.length : Int) : Int) := of_decide_eq_true (by first | (with_reducible assumption) | assumption)
          obtain ⟨go11, co11, eo11, gb11, gl11, cl11, HG11⟩ := Kd.R_form HO_5.out (by omega)
          (first | cases eo11 | (injection eo11 with ea_ en_ ec_; (first | subst ea_ | (injection ea_ with ea_; subst ea_)); subst ec_; clear en_))
          have GB11 := Aside0.mk gb11
          have GG11 := Aside0.mk HG11
          clear gb11 gl11 HG11
          obtain ⟨hx11_0, hf11_0⟩ := Kd.R_celln 0 HO_5.out (x11_1 : Int) p11 q11
          replace p11 := eq_true p11
          replace q11 := eq_true q11
          have HP21 := Kd.R_putg HO_5.out (x11_1 : Int) 60
          go_wp2_with (first | ((with_reducible refine gate_store (t := 5) (p := 16) rfl ?_); refine store_event (t := 5) (p := 16) (v := ?vo_w22) (w1 := (wr.setCell ⟨go11, (x11_1 : Int).toNat, none⟩ (.int .u8 60))) ?hg ?ho ?hn ?hr ?_; (case ho => rfl); (case hg => rfl); (case hn => rfl); (case hr => first | (go_simp; done) | (go_simp; rfl)); intro w22 hw; have hg : wr.grownBy w22 (some go11) := (by rw [hw]; exact HP21.2); have hp_ : Kd.R (Kd.int .u8) 5 w22 w.heap.size (fun _ => True) (.slice (some ⟨go11, 0, none⟩) x5_1.length co7) y243 := (by rw [hw, Ny243.out]; exact HP21.1); clear HP21; replace HO_5 := Aside0.mk (hp_); replace HB := Aside0.mk ((by rw [hw]; exact below_set (HB.out) GB11.out : Below w.heap.size w w22)); clear hg hw hp_))
          (try simp only [← hl5_1])
          go_roundg k1
          case measure => have := HK1.out; omega
          case rel => exact ⟨(y243), (wrap64 (x11_1 + 1)), (rs), H', ⟨by have := HK1.out; omega⟩, ⟨by (try simp only [hl5_1]); (with_reducible repeat (first | apply Kd.R_alloc | apply Kd.R_drewN | apply Kd.R_drew)); exact HO_5.out⟩, ⟨bw⟩⟩
        ·rw [if_neg c13] at H
         exact absurd H (by simp)
       ·rw [if_neg c10] at H
        exact absurd H (by simp)
      ·rw [if_neg c9] at H
       exact absurd H (by simp)
     ·rw [if_neg c8] at H
      have c8b0 : decide (x11_1 < (y240.length : Int)) = false := decide_eq_false c8
      (try (have c8b8 := c8b0; rw [hl5_1] at c8b8))
      clear c8
      obtain rfl := Option.some.inj H
      have hcv23 := own_string (P := Tryd.prog) Tryd.underlying82 Tryd.underlying5 Tryd.underlying9 (Kd.own_of_R HO_5.out)
      go_wp2
      go_ret
      exact ⟨rs, bw⟩
  ·rw [if_neg c4] at H
   exact absurd H (by simp)
 ·rw [if_neg c3] at H
  exact absurd H (by simp)

/-! ### impl_solutions: function 77 -/
def impl_solutions_clo.f (k : Nat) (s0 : ByteArray) (x0 : Int) (x1 : Int) (x2 : Int) (x3 : Int) : Option Bool := (impl_Clue_fits.f k x0 x1 x2 x3 s0).bind fun t => some (!t)
theorem impl_solutions_clo.mono : ∀ s0 x0 x1 x2 x3 k, LeO (impl_solutions_clo.f k s0 x0 x1 x2 x3) (impl_solutions_clo.f (k + 1) s0 x0 x1 x2 x3) := by
  intro s0 x0 x1 x2 x3 k
  unfold impl_solutions_clo.f
  exact LeO.bind (impl_Clue_fits.mono _ _ _ _ _ k) (fun _ => LeO.refl _)
set_option maxHeartbeats 8000000 in
set_option maxRecDepth 100000 in
theorem impl_solutions_clo.calls (k : Nat) (g : Nat) (s0 : ByteArray) (x0 : Int) (x1 : Int) (x2 : Int) (x3 : Int) (r : Bool) (w : World) (hm : Dr.Tab w) (hg0 : w.cell? ⟨g, 0, none⟩ = some (.string s0)) (h : impl_solutions_clo.f k s0 x0 x1 x2 x3 = some r) :
  Calls Tryd.prog 98 (#[.agg #[.int .i64 x0, .int .i64 x1, .int .i64 x2, .int .i64 x3]] ++ #[.pointer (some ⟨g, 0, none⟩)]) w fun e w' => e = .returned (.bool r) ∧ Below w.heap.size w w' := by
 have hu := Tryd.underlying33
 have HB := Aside0.mk (Below.refl w.heap.size w)
 have HG0 := Aside0.mk hg0
 have HMM := Aside0.mk hm
 clear hg0 hm
 replace h := Option.bind_eq_some_iff.mp h
 obtain ⟨t, A0, H⟩ := h
 have A1 := Aside0.mk A0
 clear A0
 obtain rfl := Option.some.inj H
 clear H
 show Calls Tryd.prog 98 #[.agg #[.int .i64 x0, .int .i64 x1, .int .i64 x2, .int .i64 x3], .pointer (some ⟨g, 0, none⟩)] w _
 go_enter Tryd.func98, Tryd.ntmps98
 go_wp2_with (first | ((with_reducible refine gate_dst (N := 2) rfl ?_); refine box_event ?hg (N := 2) ?hd (cs := #[.int .i64 x0, .int .i64 x1, .int .i64 x2, .int .i64 x3]) (t := 33) ?hr ?_; (case hd => rfl); (case hg => rfl); (case hr => first | (go_simp; done) | (go_simp; rfl)); intro gb hg w8 hbox hb; have n0_ := Aside0.mk (below_step (by repeat (first | exact HB.out | apply pw_below_drewN)) hb); have n1_ := Aside0.mk hbox; have hcg0 : w8.cell? ⟨g, 0, none⟩ = some (.string s0) := (hb.cell (World.block_lt_of_cell? w _ HG0.out)).trans HG0.out; have hcz0 : w8.cell? ⟨gb, 0, none⟩ = some (.int .i64 x0) := (blk_cell n1_.out 0).trans rfl; have hcz1 : w8.cell? ⟨gb, 1, none⟩ = some (.int .i64 x1) := (blk_cell n1_.out 1).trans rfl; have hcz2 : w8.cell? ⟨gb, 2, none⟩ = some (.int .i64 x2) := (blk_cell n1_.out 2).trans rfl; have hcz3 : w8.cell? ⟨gb, 3, none⟩ = some (.int .i64 x3) := (blk_cell n1_.out 3).trans rfl; clear HB; have HB := n0_; have BK1 := n1_; clear n0_ n1_ hb hbox hg) | (go_at_call 60; (with_reducible refine (impl_Clue_fits.calls k x0 x1 x2 x3 s0 t _ (HMM.out.below HB.out) A1.out).mono ?_); rintro e w' ⟨rfl, hb⟩; have n0_ := Aside0.mk (below_step HB.out hb); clear HB; have HB := n0_; clear n0_ hb))
 go_ret
 exact ⟨by first | rfl | simp, by repeat (first | exact HB.out | apply pw_below_drewN)⟩
def impl_solutions_idx.l0 : Nat → ByteArray → List (S33) → Int → Option Int
  | 0, _, _, _ => none
  | k + 1, s0, l, i => if i < (l.length : Int) then (if 0 ≤ i then ((impl_solutions_clo.f k s0 (rd_T33 l i).f0 (rd_T33 l i).f1 (rd_T33 l i).f2 (rd_T33 l i).f3).bind fun t => (if t = true then (some i) else (impl_solutions_idx.l0 k s0 l (wrap64 (i + 1))))) else none) else (some (-1))
theorem impl_solutions_idx.mono_l : ∀ k, (∀ y0 y1 y2, LeO (impl_solutions_idx.l0 k y0 y1 y2) (impl_solutions_idx.l0 (k + 1) y0 y1 y2))
  | 0 => fun _ _ _ r h => by simp [impl_solutions_idx.l0] at h
  | k + 1 => by
    have ih0 := impl_solutions_idx.mono_l k
    · intro y0 y1 y2
      unfold impl_solutions_idx.l0
      repeat' first
      | (with_reducible exact ih0 _ _ _)
      | (with_reducible exact impl_solutions_clo.mono _ _ _ _ _ _)
      | (with_reducible exact LeO.refl _)
      | (with_reducible exact LeO.none _)
      | (with_reducible refine LeO.ite ?_ ?_)
      | (with_reducible refine LeO.bind ?_ (fun _ => ?_))
set_option maxHeartbeats 8000000 in
set_option maxRecDepth 100000 in
theorem impl_solutions_idx.calls (k : Nat) (g : Nat) (s0 : ByteArray) (A0 : Option Addr) (c0 : Nat) (l0 : List (S33)) (r : Int) (w : World) (hr0 : Kd.C k33 w A0 l0.length l0) (hc0 : l0.length ≤ c0) (hm : Dr.Tab w) (hg0 : w.cell? ⟨g, 0, none⟩ = some (.string s0)) (h : impl_solutions_idx.l0 k s0 l0 0 = some r) :
  Calls Tryd.prog 121 #[.slice A0 l0.length c0, .func (.func 98) #[] #[.pointer (some ⟨g, 0, none⟩)]] w fun e w' => e = .returned (.int .i64 r) ∧ Below w.heap.size w w' := by
 have hu := Tryd.underlying33
 have HR0 := Aside0.mk hr0
 have HC0 := Aside0.mk hc0
 clear hr0 hc0
 have HG0 := Aside0.mk hg0
 have HMM := Aside0.mk hm
 clear hg0 hm
 have HB := Aside0.mk (Below.refl w.heap.size w)
 have H' := Aside0.mk h
 clear h
 go_enter Tryd.func121, Tryd.ntmps121
 go_wp2
 go_loopg [8] k (fun kq v8 w' => ∃ (x8 : Int), v8 = .int .i64 x8 ∧ Aside0 (impl_solutions_idx.l0 kq s0 l0 x8 = some r) ∧ Aside0 (kq ≤ k) ∧ Aside0 (Below w.heap.size w w'))
 case atStart => exact ⟨(0), (rs), H', ⟨Nat.le_refl _⟩, HB⟩
 case round =>
  clear H' HB
  obtain ⟨x8, rfl, HA, HK1, HB⟩ := hrel
  cases gk with
  | zero => exact absurd HA.out (by simp [impl_solutions_idx.l0])
  | succ k1 =>
   have H := HA.out
   clear HA
   simp only [impl_solutions_idx.l0] at H
   by_cases c4 : x8 < (l0.length : Int)
   ·rw [if_pos c4] at H
    have c4b0 : decide (x8 < (l0.length : Int)) = true := decide_eq_true c4
    by_cases c5 : 0 ≤ x8
    ·rw [if_pos c5] at H
     have c5b0 : decide (0 ≤ x8) = true := decide_eq_true c5
     replace H := Option.bind_eq_some_iff.mp H
     obtain ⟨t1, A0', H⟩ := H
     have A1 := Aside0.mk A0'
     clear A0'
     obtain ⟨ad, e1, hx0, hx1, hx2, hx3⟩ := at_T33 HR0.out x8 c5 c4
     cases e1
     replace hx0 := (HB.out.cell (World.block_lt_of_cell? w _ hx0)).trans hx0
     replace hx1 := (HB.out.cell (World.block_lt_of_cell? w _ hx1)).trans hx1
     replace hx2 := (HB.out.cell (World.block_lt_of_cell? w _ hx2)).trans hx2
     replace hx3 := (HB.out.cell (World.block_lt_of_cell? w _ hx3)).trans hx3
     have p1 := eq_true c5
     have q1 := eq_true c4
     clear c4 c5
     cases t1 with
     | true =>
      obtain rfl := Option.some.inj H
      clear H
      go_wp2_with (((with_reducible refine gate_dst (N := 16) rfl ?_); refine Fv.goesV_ (some 16) rfl rfl Tryd.func98 (by kernel_rfl) rfl #[.agg #[.int .i64 (rd_T33 l0 x8).f0, .int .i64 (rd_T33 l0 x8).f1, .int .i64 (rd_T33 l0 x8).f2, .int .i64 (rd_T33 l0 x8).f3]] rfl (by first | rfl | (go_simp; done)) (by first | rfl | (go_simp; done)) ?_; (refine (impl_solutions_clo.calls _ g s0 _ _ _ _ _ _ (HMM.out.below HB.out) ((HB.out.cell (World.block_lt_of_cell? w _ HG0.out)).trans HG0.out) A1.out).mono ?_); rintro e w' ⟨rfl, hb⟩; refine ⟨_, rfl, ?_⟩; have n0_ := Aside0.mk (below_step HB.out hb); clear HB; have HB := n0_; clear n0_ hb))
      go_ret
      exact ⟨by first | rfl | simp, HB.out⟩
     | false =>
      have H' := Aside0.mk (show impl_solutions_idx.l0 k1 s0 l0 (wrap64 (x8 + 1)) = some r from by simpa using H)
      clear H
      go_wp2_with (((with_reducible refine gate_dst (N := 16) rfl ?_); refine Fv.goesV_ (some 16) rfl rfl Tryd.func98 (by kernel_rfl) rfl #[.agg #[.int .i64 (rd_T33 l0 x8).f0, .int .i64 (rd_T33 l0 x8).f1, .int .i64 (rd_T33 l0 x8).f2, .int .i64 (rd_T33 l0 x8).f3]] rfl (by first | rfl | (go_simp; done)) (by first | rfl | (go_simp; done)) ?_; (refine (impl_solutions_clo.calls _ g s0 _ _ _ _ _ _ (HMM.out.below HB.out) ((HB.out.cell (World.block_lt_of_cell? w _ HG0.out)).trans HG0.out) A1.out).mono ?_); rintro e w' ⟨rfl, hb⟩; refine ⟨_, rfl, ?_⟩; have n0_ := Aside0.mk (below_step HB.out hb); clear HB; have HB := n0_; clear n0_ hb))
      go_roundg k1
      case measure => have := HK1.out; omega
      case rel => exact ⟨(wrap64 (x8 + 1)), (rs), H', ⟨by have := HK1.out; omega⟩, HB⟩
    ·rw [if_neg c5] at H
     exact absurd H (by simp)
   ·rw [if_neg c4] at H
    have c4b0 : decide (x8 < (l0.length : Int)) = false := decide_eq_false c4
    clear c4
    obtain rfl := Option.some.inj H
    clear H
    go_wp2
    go_ret
    exact ⟨by first | rfl | simp, HB.out⟩
def impl_solutions_has.f (k : Nat) (s0 : ByteArray) (l : List (S33)) : Option Bool := (impl_solutions_idx.l0 k s0 l 0).bind fun i => some (decide (0 ≤ i))
theorem impl_solutions_has.mono : ∀ s0 a0 k, LeO (impl_solutions_has.f k s0 a0) (impl_solutions_has.f (k + 1) s0 a0) := by
  intro s0 a0 k
  unfold impl_solutions_has.f
  repeat' first
      | (with_reducible exact impl_solutions_idx.mono_l k _ _ _)
      | (with_reducible exact LeO.refl _)
      | (with_reducible exact LeO.none _)
      | (with_reducible refine LeO.ite ?_ ?_)
      | (with_reducible refine LeO.bind ?_ (fun _ => ?_))
set_option maxHeartbeats 8000000 in
set_option maxRecDepth 100000 in
theorem impl_solutions_has.calls (k : Nat) (g : Nat) (s0 : ByteArray) (A0 : Option Addr) (c0 : Nat) (l0 : List (S33)) (r : Bool) (w : World) (hr0 : Kd.C k33 w A0 l0.length l0) (hc0 : l0.length ≤ c0) (hm : Dr.Tab w) (hg0 : w.cell? ⟨g, 0, none⟩ = some (.string s0)) (h : impl_solutions_has.f k s0 l0 = some r) :
  Calls Tryd.prog 95 #[.slice A0 l0.length c0, .func (.func 98) #[] #[.pointer (some ⟨g, 0, none⟩)]] w fun e w' => e = .returned (.bool r) ∧ Below w.heap.size w w' := by
 have HR0 := Aside0.mk hr0
 have HC0 := Aside0.mk hc0
 clear hr0 hc0
 have HG0 := Aside0.mk hg0
 have HMM := Aside0.mk hm
 clear hg0 hm
 have HB := Aside0.mk (Below.refl w.heap.size w)
 replace h := Option.bind_eq_some_iff.mp h
 obtain ⟨t, A0', H⟩ := h
 have A1 := Aside0.mk A0'
 clear A0'
 obtain rfl := Option.some.inj H
 clear H
 go_enter Tryd.func95, Tryd.ntmps95
 go_wp2_with (go_at_call 121; (refine (impl_solutions_idx.calls k g s0 A0 c0 l0 t _ HR0.out HC0.out HMM.out HG0.out A1.out).mono ?_); rintro e w' ⟨rfl, hb⟩; have n0_ := Aside0.mk (below_step HB.out hb); clear HB; have HB := n0_; clear n0_ hb)
 go_ret
 exact ⟨by first | rfl | simp, HB.out⟩
def impl_solutions.l0 : Nat → Int → List S33 → List ByteArray → Int → Int → Option (List ByteArray)
  | 0, _, _, _, _, _ => none
  | k + 1, s, l, o, m, n => if n < m then ((impl_rowOf.f k s n).bind fun row => (impl_solutions_has.f k row l).bind fun t => (if t = true then impl_solutions.l0 k s l o m (wrap64 (n + 1)) else (if o.length < 8796093022208 then impl_solutions.l0 k s l (o ++ [row]) m (wrap64 (n + 1)) else none))) else some o
theorem impl_solutions.mono_l : ∀ k, (∀ y0 y1 y2 y3 y4, LeO (impl_solutions.l0 k y0 y1 y2 y3 y4) (impl_solutions.l0 (k + 1) y0 y1 y2 y3 y4))
  | 0 => fun _ _ _ _ _ r h => by simp [impl_solutions.l0] at h
  | k + 1 => by
    have ih0 := impl_solutions.mono_l k
    · intro y0 y1 y2 y3 y4
      unfold impl_solutions.l0
      repeat' first
      | (with_reducible exact ih0 _ _ _ _ _)
      | (with_reducible exact impl_solutions_has.mono _ _ _)
      | (with_reducible exact impl_rowOf.mono _ _ _)
      | (with_reducible exact LeO.refl _)
      | (with_reducible exact LeO.none _)
      | (with_reducible refine LeO.ite ?_ ?_)
      | (with_reducible refine LeO.bind ?_ (fun _ => ?_))
def impl_solutions.f (k : Nat) (a0 : Int) (l1 : List S33) : Option (List ByteArray) := if 0 ≤ a0 then impl_solutions.l0 k a0 l1 [] (shl .i64 1 a0) 0 else none
theorem impl_solutions.mono : ∀ a0 a1 k, LeO (impl_solutions.f k a0 a1) (impl_solutions.f (k + 1) a0 a1) := by
  intro a0 a1 k
  unfold impl_solutions.f
  exact LeO.ite (impl_solutions.mono_l k _ _ _ _ _) (LeO.none _)
set_option maxHeartbeats 8000000 in
set_option maxRecDepth 100000 in
theorem impl_solutions.calls (k : Nat) (a0 : Int) (A1 : Option Addr) (c1 : Nat) (l1 : List (S33)) (r : List ByteArray) (w : World) (hm : Dr.Tab w) (hr1 : Kd.C k33 w A1 l1.length l1) (hc1 : l1.length ≤ c1) (h : impl_solutions.f k a0 l1 = some r) :
  Calls Tryd.prog 77 #[.int .i64 a0, .slice A1 l1.length c1] w fun e w' => ∃ v0_ : Value, e = .returned (v0_) ∧ Kd.R Kd.string 9 w' w.heap.size (fun _ => True) v0_ r ∧ Below w.heap.size w w' := by
 have hu := Tryd.underlying33
 have HR1 := Aside0.mk hr1
 have HC1 := Aside0.mk hc1
 have HMM := Aside0.mk hm
 clear hr1 hc1 hm
 have HB := Aside0.mk (Below.refl w.heap.size w)
 unfold impl_solutions.f at h
 by_cases c3 : 0 ≤ a0
 ·rw [if_pos c3] at h
  have c3b0 := eq_true c3
  have c3b1 : decide (0 ≤ a0) = true := decide_eq_true c3
  have c3b2 : decide (a0 < 0) = false := decide_eq_false (by omega)
  clear c3
  obtain ⟨m, hm⟩ : ∃ j_ : Int, (shl .i64 1 a0) = j_ := ⟨_, rfl⟩
  rw [hm] at h
  have hji4_ : (IntKind.i64.wrap (1 * 2 ^ min a0.toNat 64)) = m := hm
  have hji4z : a0 ≤ 64 → (IntKind.i64.wrap (1 * 2 ^ a0.toNat)) = m := shl_small hm
  have hji4u : (IntKind.i64.wrap (2 ^ min a0.toNat 64)) = m := by have h_ := hji4_; rw [Int.one_mul] at h_; exact h_
  have hji4v : a0 ≤ 64 → (IntKind.i64.wrap (2 ^ a0.toNat)) = m := fun hle_ => by have h_ := hji4z hle_; rw [Int.one_mul] at h_; exact h_
  have hji4y : (wrap64 (1 * 2 ^ min a0.toNat 64)) = m := (i64_w _).symm.trans hji4_
  have hji4x : a0 ≤ 64 → (wrap64 (1 * 2 ^ a0.toNat)) = m := fun h_ => (i64_w _).symm.trans (hji4z h_)
  clear hm
  have H' := Aside0.mk h
  clear h
  go_enter Tryd.func77, Tryd.ntmps77
  go_wp2_with (first | ((with_reducible refine gate_dst (N := 8) rfl ?_); refine Kd.R_lit Kd.string _ 9 ?hg (N := 8) ?hd (xs := ([] : List ByteArray)) (inner := []) (ok := fun _ => True) (okp := fun _ => True) ?hr ?hp (fun _ hk => hk) trivial (Below.refl _ _) (Nat.le_refl _) (by simp) ?_; (case hd => rfl); (case hg => rfl); (case hr => first | (go_simp; done) | (go_simp; rfl)); (case hp => exact (Reps.none _ _)); intro v172 w2 ho3 hb hg_ hnew_; clear hg_ hnew_; have HO := Aside0.mk (Kd.R_lower ho3 (below_size HB.out)); replace HB := Aside0.mk (below_step HB.out hb); clear hb ho3))
  go_loopg [5, 11] k (fun kq v5 v11 w' => ∃ (o : List ByteArray) (n : Int), v11 = .int .i64 n ∧ Aside0 (impl_solutions.l0 kq a0 l1 o m n = some r) ∧ Aside0 (kq ≤ k) ∧ Aside0 (Kd.R Kd.string 9 w' w.heap.size (fun _ => True) v5 o) ∧ Aside0 (Below w.heap.size w w'))
  case atStart => exact ⟨[], 0, rfl, H', ⟨Nat.le_refl _⟩, HO, HB⟩
  case round =>
   clear H' HB HO
   obtain ⟨o, n, rfl, HA, HK1, HO, HB⟩ := hrel
   cases gk with
   | zero => exact absurd HA.out (by simp [impl_solutions.l0])
   | succ k1 =>
    have H := HA.out
    clear HA
    simp only [impl_solutions.l0] at H
    by_cases c5 : n < m
    ·rw [if_pos c5] at H
     have c5b0 : decide (n < m) = true := decide_eq_true c5
     clear c5
     obtain ⟨row, A0, H⟩ := Option.bind_eq_some_iff.mp H
     have A1 := Aside0.mk A0
     clear A0
     obtain ⟨t, A0, H⟩ := Option.bind_eq_some_iff.mp H
     have A2 := Aside0.mk A0
     clear A0
     cases t with
     | true =>
      rw [if_pos rfl] at H
      have H' := Aside0.mk H
      clear H
      go_wp2_with (first | (go_at_call 97; (with_reducible refine (impl_rowOf.calls k1 a0 n row _ A1.out).mono ?_); rintro e w3 ⟨rfl, hb⟩; replace HO := Aside0.mk (Kd.R_below HO.out hb); replace HB := Aside0.mk (below_step HB.out hb); clear hb) | (go_at_call 95; (refine (impl_solutions_has.calls k1 w3.heap.size row _ c1 l1 true _ (Kd.C_below HR1.out (below_alloc HB.out _)) HC1.out (HMM.out.below (below_alloc HB.out _)) ((blk_cell (blk_new w3 _) 0).trans rfl) A2.out).mono ?_); rintro e w4 ⟨rfl, hb⟩; have hc7 : w4.cell? ⟨w3.heap.size, 0, none⟩ = some (.string row) := (blk_cell (blk_below (blk_new w3 _) hb) 0).trans rfl; replace HO := Aside0.mk (Kd.R_below (Kd.R_alloc HO.out _) hb); replace HB := Aside0.mk (below_step (below_alloc HB.out _) hb); clear hb))
      go_roundg k1
      case measure => have := HK1.out; omega
      case rel => exact ⟨o, (wrap64 (n + 1)), (rs), H', ⟨by have := HK1.out; omega⟩, HO, HB⟩
     | false =>
      rw [if_neg (by decide)] at H
      by_cases c6 : o.length < 8796093022208
      ·rw [if_pos c6] at H
       have LM := Aside0.mk c6
       clear c6
       have H' := Aside0.mk H
       clear H
       go_wp2_with (first | (go_at_call 97; (with_reducible refine (impl_rowOf.calls k1 a0 n row _ A1.out).mono ?_); rintro e w3 ⟨rfl, hb⟩; replace HO := Aside0.mk (Kd.R_below HO.out hb); replace HB := Aside0.mk (below_step HB.out hb); clear hb) | (go_at_call 95; (refine (impl_solutions_has.calls k1 w3.heap.size row _ c1 l1 false _ (Kd.C_below HR1.out (below_alloc HB.out _)) HC1.out (HMM.out.below (below_alloc HB.out _)) ((blk_cell (blk_new w3 _) 0).trans rfl) A2.out).mono ?_); rintro e w4 ⟨rfl, hb⟩; have hc7 : w4.cell? ⟨w3.heap.size, 0, none⟩ = some (.string row) := (blk_cell (blk_below (blk_new w3 _) hb) 0).trans rfl; replace HO := Aside0.mk (Kd.R_below (Kd.R_alloc HO.out _) hb); replace HB := Aside0.mk (below_step (below_alloc HB.out _) hb); clear hb) | ((with_reducible refine gate_builtin (b := .append) (xs := #[.tmp 21, .tmp 23]) rfl ?_); at_builtin; refine Kd.R_append Kd.string (w0 := w) w.heap.size rfl (.tmp 21) (.tmp 23) 60 9 (.string ⟨#[]⟩) 16 rfl Tryd.underlying60 info9 rfl (by decide) (by omega) u5 o row [.string row] (fun _ => True) (fun _ => False) rfl rfl ?aP (fun _ hk => hk.elim) ?aF ?aO ?aB ?aS ?aL ?_; (case aP => exact rfl); (case aB => repeat (first | exact HB.out | apply below_alloc)); (case aF => exact (fun _ _ => trivial)); (case aO => (with_reducible repeat (first | apply Kd.R_alloc | apply Kd.R_drewN | apply Kd.R_drew)); exact HO.out); (case aS => exact (below_size (by repeat (first | exact HB.out | apply below_alloc)))); (case aL => have := LM.out; omega); intro v164 w19 ho hb hg hat; clear HB HO; have HB := Aside0.mk hb; have HO := Aside0.mk ho; clear ho hb hg hat))
       go_roundg k1
       case measure => have := HK1.out; omega
       case rel => exact ⟨_, (wrap64 (n + 1)), (rs), H', ⟨by have := HK1.out; omega⟩, HO, HB⟩
      ·rw [if_neg c6] at H
       exact absurd H (by simp)
    ·rw [if_neg c5] at H
     have c5b0 : decide (n < m) = false := decide_eq_false c5
     clear c5
     obtain rfl := Option.some.inj H
     clear H
     go_wp2
     go_ret
     exact ⟨_, rfl, HO.out, HB.out⟩
 ·rw [if_neg c3] at h
  exact absurd h (by simp)

/-! ### impl_Solutions: function 45 -/
def impl_Solutions.f (k : Nat) (a0_0 : Int) (l0_1 : List (S33)) : Option (List ByteArray × Bool) := (impl_isPuzzle.f k a0_0 l0_1).bind fun t246 => (if t246 = true then ((impl_solutions.f k a0_0 l0_1).bind fun t247 => (some (t247, true))) else (some (([] : List ByteArray), false)))
theorem impl_Solutions.mono : ∀ a0 a1 k, LeO (impl_Solutions.f k a0 a1) (impl_Solutions.f (k + 1) a0 a1) := by
  intro a0 a1 k
  unfold impl_Solutions.f
  repeat' first
      | (with_reducible exact impl_isPuzzle.mono _ _ _)
      | (with_reducible exact impl_solutions.mono _ _ _)
      | (with_reducible exact LeO.refl _)
      | (with_reducible exact LeO.none _)
      | (with_reducible refine LeO.ite ?_ ?_)
      | (with_reducible refine LeO.bind ?_ (fun _ => ?_))
      | exact impl_isPuzzle.mono _ _ _
      | exact impl_solutions.mono _ _ _
      | exact LeO.none _
      | refine LeO.ite ?_ ?_
      | refine LeO.bind ?_ (fun _ => ?_)
set_option maxHeartbeats 8000000 in
set_option maxRecDepth 100000 in
theorem impl_Solutions.calls (k : Nat) (a0_0 : Int) (A0_1 : Option Addr) (c0_1 : Nat) (l0_1 : List (S33)) (r1 : List ByteArray) (r2 : Bool) (w : World) (hm : Dr.Tab w) (hr0_1 : Kd.C k33 w A0_1 l0_1.length l0_1) (hc0_1 : l0_1.length ≤ c0_1) (h : impl_Solutions.f k a0_0 l0_1 = some (r1, r2)) :
  Calls Tryd.prog 45 #[.agg #[.int .i64 a0_0, .slice A0_1 l0_1.length c0_1]] w fun e w' => ∃ v0_ : Value, e = .returned (.tuple #[v0_, .bool r2]) ∧ Kd.R Kd.string 9 w' w.heap.size (fun _ => True) v0_ r1 ∧ Below w.heap.size w w' := by
 have hu38 := Tryd.underlying38
 have HR0_1 := Aside0.mk hr0_1
 have HC0_1 := Aside0.mk hc0_1
 clear hr0_1 hc0_1
 have HB := Aside0.mk (Below.refl w.heap.size w)
 have HMM := Aside0.mk hm
 clear hm
 unfold impl_Solutions.f at h
 have H := h
 clear h
 replace H := Option.bind_eq_some_iff.mp H
 obtain ⟨t246, A20, H⟩ := H
 (try dsimp only at H)
 have A2 := Aside0.mk A20
 clear A20
 by_cases c3 : t246 = true
 ·subst c3
  rw [if_pos rfl] at H
  replace H := Option.bind_eq_some_iff.mp H
  obtain ⟨t247, A40, H⟩ := H
  (try dsimp only at H)
  have A4 := Aside0.mk A40
  clear A40
  simp only [Option.some.injEq, Prod.mk.injEq] at H
  obtain ⟨rfl, rfl⟩ := H
  go_enter Tryd.func45, Tryd.ntmps45
  go_wp2_with (first | ((with_reducible refine gate_dst (N := 1) rfl ?_); refine bx 1 38 #[.int .i64 a0_0, .slice A0_1 l0_1.length c0_1] ?_; intro gb245 hg w5 hbox hb; have BK245 := hbox; have GW245 := gs hg; have GE245 := gs hg; replace HB := bs hb; clear hb hbox hg; have hcz6_0 := bc BK245 0 (.int .i64 a0_0); have hcz6_1 := bc BK245 1 (.slice A0_1 l0_1.length c0_1); have hfz6_0 := blk_frozen BK245.out 0; have hfz6_1 := blk_frozen BK245.out 1) | ((with_reducible refine gate_callee (f := 76) rfl ?_); refine gl (some 5) Tryd.func76 #[.agg #[.int .i64 a0_0, .slice A0_1 l0_1.length c0_1]] ?_; (with_reducible refine (impl_isPuzzle.calls k a0_0 _ _ l0_1 true _ ?side1 ?side2 A2.out).mono ?_); (case side1 => repeat (first | exact (Kd.C_below HR0_1.out HB.out) | (with_reducible refine Kd.C_alloc ?_ _) | (with_reducible refine Kd.C_drewN ?_ _) | (with_reducible refine Kd.C_drew ?_))); (case side2 => exact HC0_1.out); rintro e w7 ⟨rfl, hb⟩; refine ⟨_, rfl, ?_⟩; replace BK245 := nk BK245 hb; replace HB := bs hb; (try clear hb); have hcz8_0 := bc BK245 0 (.int .i64 a0_0); have hcz8_1 := bc BK245 1 (.slice A0_1 l0_1.length c0_1); have hfz8_0 := blk_frozen BK245.out 0; have hfz8_1 := blk_frozen BK245.out 1) | ((with_reducible refine gate_callee (f := 77) rfl ?_); refine gl (some 11) Tryd.func77 #[.int .i64 a0_0, .slice A0_1 l0_1.length c0_1] ?_; (with_reducible refine (impl_solutions.calls k a0_0 _ _ l0_1 t247 _ ?side1 ?side2 ?side3 A4.out).mono ?_); (case side1 => first | exact HMM.out | exact Dr.Tab.below HMM.out bw | (repeat (first | exact HMM.out | apply Dr.Tab.drewN | apply Dr.Tab.drew | apply Dr.Tab.alloc))); (case side2 => repeat (first | exact (Kd.C_below HR0_1.out HB.out) | (with_reducible refine Kd.C_alloc ?_ _) | (with_reducible refine Kd.C_drewN ?_ _) | (with_reducible refine Kd.C_drew ?_))); (case side3 => exact HC0_1.out); rintro e w9 ⟨v248, rfl, ho0, hb⟩; refine ⟨_, rfl, ?_⟩; have HO249 := Aside0.mk (Kd.R_lower ho0 (below_size bw)); replace BK245 := nk BK245 hb; replace HB := bs hb; (try clear hb); (try clear ho0)))
  go_ret2
  exact ⟨_, rs, pr HO249, bw⟩
 ·replace c3 := Bool.eq_false_iff.mpr c3
  subst c3
  rw [if_neg (show ¬ (false = true) by decide)] at H
  simp only [Option.some.injEq, Prod.mk.injEq] at H
  obtain ⟨rfl, rfl⟩ := H
  go_enter Tryd.func45, Tryd.ntmps45
  go_wp2_with (first | ((with_reducible refine gate_dst (N := 1) rfl ?_); refine bx 1 38 #[.int .i64 a0_0, .slice A0_1 l0_1.length c0_1] ?_; intro gb245 hg w10 hbox hb; have BK245 := hbox; have GW245 := gs hg; have GE245 := gs hg; replace HB := bs hb; clear hb hbox hg; have hcz11_0 := bc BK245 0 (.int .i64 a0_0); have hcz11_1 := bc BK245 1 (.slice A0_1 l0_1.length c0_1); have hfz11_0 := blk_frozen BK245.out 0; have hfz11_1 := blk_frozen BK245.out 1) | ((with_reducible refine gate_callee (f := 76) rfl ?_); refine gl (some 5) Tryd.func76 #[.agg #[.int .i64 a0_0, .slice A0_1 l0_1.length c0_1]] ?_; (with_reducible refine (impl_isPuzzle.calls k a0_0 _ _ l0_1 false _ ?side1 ?side2 A2.out).mono ?_); (case side1 => repeat (first | exact (Kd.C_below HR0_1.out HB.out) | (with_reducible refine Kd.C_alloc ?_ _) | (with_reducible refine Kd.C_drewN ?_ _) | (with_reducible refine Kd.C_drew ?_))); (case side2 => exact HC0_1.out); rintro e w12 ⟨rfl, hb⟩; refine ⟨_, rfl, ?_⟩; replace BK245 := nk BK245 hb; replace HB := bs hb; (try clear hb)))
  go_ret2
  exact ⟨_, rs, by first | exact Kd.R_nil _ _ _ _ _ | exact Kd.N_nil _ _ _ _ _ | exact Kd.V_nil _ _ _ _ _ | exact Kd.Q_nil _ _ _ _ _ | exact Kd.S_nil _ _ _ _ _, bw⟩

end Go.Proofs.YtmindeeacfdonaaDoor.PFnExactSolutions
