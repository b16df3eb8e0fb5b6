-- Laid by xprint, a program of this session that runs over the kit's print.
import Derived.Test.YtafcfhlgenljgaaPFnExactTimesAtx0
namespace Go.Proofs.Ytafcfhlgenljgaa.PFnExactTimesAt
open Go.RowKit Go.Proofs.YtafcfhlgenljgaaW.PrintWords Go.Proofs.YtafcfhlgenljgaaW.PrintLast Go.Proofs.YtafcfhlgenljgaaW.PrintMore Go.Proofs.Ytafcfhlgenljgaa.Sq
attribute [local go_sem] max2_int min2_int max_two min_two max_three min_three max_four min_four   -- for this text's walks alone
set_option linter.unusedVariables false
set_option linter.unusedSimpArgs false

/-! ### spec_l1In: function 25 -/
def spec_l1In.f (a0 : Int) (a1 : Int) (a2 : Int) : Option (Bool) := if a0 ≥ a1 then (some (decide (a0 ≤ a2))) else (some false)
set_option maxHeartbeats 8000000 in
set_option maxRecDepth 100000 in
theorem spec_l1In.calls (a0 : Int) (a1 : Int) (a2 : Int) (r : Bool) (w : World) (h : spec_l1In.f a0 a1 a2 = some r) :
  Calls Try.prog 25 #[.int .i64 a0, .int .i64 a1, .int .i64 a2] w fun e w' => e = .returned (.bool r) ∧ Drawn0 w w' := by
 unfold spec_l1In.f at h
 have H := h
 clear h
 by_cases c4 : a0 ≥ a1
 ·rw [if_pos c4] at H
  have c4b0 : decide (a1 ≤ a0) = true := decide_eq_true c4
  clear c4
  obtain rfl := Option.some.inj H
  go_enter Try.func25, Try.ntmps25
  go_wp2
  go_ret
  exact ⟨rs, by repeat (first | exact Drawn0.refl _ | apply Drawn0.step)⟩
 ·rw [if_neg c4] at H
  have c4b0 : decide (a1 ≤ a0) = false := decide_eq_false c4
  clear c4
  obtain rfl := Option.some.inj H
  go_enter Try.func25, Try.ntmps25
  go_wp2
  go_ret
  exact ⟨rs, by repeat (first | exact Drawn0.refl _ | apply Drawn0.step)⟩

/-! ### spec_siSoldiers: function 36 -/
def spec_siSoldiers.f (a0 : Int) : Option (Bool) := (spec_l1In.f a0 1 100).bind fun t101 => (some t101)
set_option maxHeartbeats 8000000 in
set_option maxRecDepth 100000 in
theorem spec_siSoldiers.calls (a0 : Int) (r : Bool) (w : World) (h : spec_siSoldiers.f a0 = some r) :
  Calls Try.prog 36 #[.int .i64 a0] w fun e w' => e = .returned (.bool r) ∧ Drawn0 w w' := by
 unfold spec_siSoldiers.f at h
 have H := h
 clear h
 replace H := Option.bind_eq_some_iff.mp H
 obtain ⟨t101, A20, H⟩ := H
 (try dsimp only at H)
 have A2 := Aside0.mk A20
 clear A20
 obtain rfl := Option.some.inj H
 go_enter Try.func36, Try.ntmps36
 go_wp2_with (first | ((with_reducible refine gate_callee (f := 25) rfl ?_); refine gl (some 4) Try.func25 #[.int .i64 a0, .int .i64 1, .int .i64 100] ?_; (with_reducible refine (spec_l1In.calls a0 1 100 t101 _ A2.out).mono ?_); rintro e w' ⟨rfl, ⟨nd, rfl⟩⟩; refine ⟨_, rfl, ?_⟩))
 go_ret
 exact ⟨rs, by repeat (first | exact Drawn0.refl _ | apply Drawn0.step)⟩

/-! ### spec_siSignal: function 24 -/
def spec_siSignal.f (a0 : Int) (a1_0 : Int) (a1_1 : Bool) (a1_2 : Int) : Option (Bool) := (spec_siSoldiers.f a0).bind fun t103 => (if t103 = true then ((spec_l1In.f a1_0 0 (wrap64 (a0 - 1))).bind fun t104 => (if t104 = true then ((spec_l1In.f a1_2 1 10).bind fun t105 => (some t105)) else (some false))) else (some false))
set_option maxHeartbeats 8000000 in
set_option maxRecDepth 100000 in
theorem spec_siSignal.calls (a0 : Int) (a1_0 : Int) (a1_1 : Bool) (a1_2 : Int) (r : Bool) (w : World) (h : spec_siSignal.f a0 a1_0 a1_1 a1_2 = some r) :
  Calls Try.prog 24 #[.int .i64 a0, .agg #[.int .i64 a1_0, .bool a1_1, .int .i64 a1_2]] w fun e w' => e = .returned (.bool r) ∧ Below w.heap.size w w' := by
 have hu27 := Try.underlying27
 have HB := Aside0.mk (Below.refl w.heap.size w)
 unfold spec_siSignal.f at h
 have H := h
 clear h
 replace H := Option.bind_eq_some_iff.mp H
 obtain ⟨t103, A30, H⟩ := H
 (try dsimp only at H)
 have A3 := Aside0.mk A30
 clear A30
 by_cases c4 : t103 = true
 ·subst c4
  rw [if_pos rfl] at H
  replace H := Option.bind_eq_some_iff.mp H
  obtain ⟨t104, A50, H⟩ := H
  (try dsimp only at H)
  have A5 := Aside0.mk A50
  clear A50
  by_cases c6 : t104 = true
  ·subst c6
   rw [if_pos rfl] at H
   replace H := Option.bind_eq_some_iff.mp H
   obtain ⟨t105, A70, H⟩ := H
   (try dsimp only at H)
   have A7 := Aside0.mk A70
   clear A70
   obtain rfl := Option.some.inj H
   go_enter Try.func24, Try.ntmps24
   go_wp2_with (first | ((with_reducible refine gate_dst (N := 3) rfl ?_); refine bx 3 27 #[.int .i64 a1_0, .bool a1_1, .int .i64 a1_2] ?_; intro gb102 hg w8 hbox hb; have BK102 := hbox; have GW102 := gs hg; have GE102 := gs hg; replace HB := bs hb; clear hb hbox hg) | ((with_reducible refine gate_callee (f := 36) rfl ?_); refine gl (some 6) Try.func36 #[.int .i64 a0] ?_; (with_reducible refine (spec_siSoldiers.calls a0 true _ A3.out).mono ?_); rintro e w' ⟨rfl, ⟨nd, rfl⟩⟩; refine ⟨_, rfl, ?_⟩; have hcz9_0 := bc BK102 0 (.int .i64 a1_0); have hcz9_1 := bc BK102 1 (.bool a1_1); have hcz9_2 := bc BK102 2 (.int .i64 a1_2); have hfz9_0 := blk_frozen BK102.out 0; have hfz9_1 := blk_frozen BK102.out 1; have hfz9_2 := blk_frozen BK102.out 2) | (go_at_call 25; (with_reducible refine (spec_l1In.calls a1_0 0 (wrap64 (a0 - 1)) true _ A5.out).mono ?_); rintro e w' ⟨rfl, ⟨nd, rfl⟩⟩) | (go_at_call 25; (with_reducible refine (spec_l1In.calls a1_2 1 10 t105 _ A7.out).mono ?_); rintro e w' ⟨rfl, ⟨nd, rfl⟩⟩))
   go_ret
   exact ⟨rs, bw⟩
  ·replace c6 := Bool.eq_false_iff.mpr c6
   subst c6
   rw [if_neg (show ¬ (false = true) by decide)] at H
   obtain rfl := Option.some.inj H
   go_enter Try.func24, Try.ntmps24
   go_wp2_with (first | ((with_reducible refine gate_dst (N := 3) rfl ?_); refine bx 3 27 #[.int .i64 a1_0, .bool a1_1, .int .i64 a1_2] ?_; intro gb102 hg w10 hbox hb; have BK102 := hbox; have GW102 := gs hg; have GE102 := gs hg; replace HB := bs hb; clear hb hbox hg) | ((with_reducible refine gate_callee (f := 36) rfl ?_); refine gl (some 6) Try.func36 #[.int .i64 a0] ?_; (with_reducible refine (spec_siSoldiers.calls a0 true _ A3.out).mono ?_); rintro e w' ⟨rfl, ⟨nd, rfl⟩⟩; refine ⟨_, rfl, ?_⟩; have hcz11_0 := bc BK102 0 (.int .i64 a1_0); have hcz11_1 := bc BK102 1 (.bool a1_1); have hcz11_2 := bc BK102 2 (.int .i64 a1_2); have hfz11_0 := blk_frozen BK102.out 0; have hfz11_1 := blk_frozen BK102.out 1; have hfz11_2 := blk_frozen BK102.out 2) | (go_at_call 25; (with_reducible refine (spec_l1In.calls a1_0 0 (wrap64 (a0 - 1)) false _ A5.out).mono ?_); rintro e w' ⟨rfl, ⟨nd, rfl⟩⟩))
   go_ret
   exact ⟨rs, bw⟩
 ·replace c4 := Bool.eq_false_iff.mpr c4
  subst c4
  rw [if_neg (show ¬ (false = true) by decide)] at H
  obtain rfl := Option.some.inj H
  go_enter Try.func24, Try.ntmps24
  go_wp2_with (first | ((with_reducible refine gate_dst (N := 3) rfl ?_); refine bx 3 27 #[.int .i64 a1_0, .bool a1_1, .int .i64 a1_2] ?_; intro gb102 hg w12 hbox hb; have BK102 := hbox; have GW102 := gs hg; have GE102 := gs hg; replace HB := bs hb; clear hb hbox hg) | ((with_reducible refine gate_callee (f := 36) rfl ?_); refine gl (some 6) Try.func36 #[.int .i64 a0] ?_; (with_reducible refine (spec_siSoldiers.calls a0 false _ A3.out).mono ?_); rintro e w' ⟨rfl, ⟨nd, rfl⟩⟩; refine ⟨_, rfl, ?_⟩))
  go_ret
  exact ⟨rs, bw⟩

/-! ### spec_siComes: function 26 -/
def spec_siComes.f (a0 : Int) (a1_0 : Int) (a1_1 : Bool) (a1_2 : Int) (a2 : Int) : Option (Bool) := if a2 = 0 then (some true) else (if a0 > 1 then (if a1_2 = 0 then (none) else (some ((Int.tmod a2 a1_2) == 0))) else (some false))
set_option maxHeartbeats 8000000 in
set_option maxRecDepth 100000 in
theorem spec_siComes.calls (a0 : Int) (a1_0 : Int) (a1_1 : Bool) (a1_2 : Int) (a2 : Int) (r : Bool) (w : World) (h : spec_siComes.f a0 a1_0 a1_1 a1_2 a2 = some r) :
  Calls Try.prog 26 #[.int .i64 a0, .agg #[.int .i64 a1_0, .bool a1_1, .int .i64 a1_2], .int .i64 a2] w fun e w' => e = .returned (.bool r) ∧ Below w.heap.size w w' := by
 have hu27 := Try.underlying27
 have HB := Aside0.mk (Below.refl w.heap.size w)
 unfold spec_siComes.f at h
 have H := h
 clear h
 by_cases c4 : a2 = 0
 ·rw [if_pos c4] at H
  have c4b0 : (a2 == 0) = true := beq_iff_eq.mpr c4
  have c4b1 : (a2 != 0) = false := bne_eq_false_iff_eq.mpr c4
  clear c4
  obtain rfl := Option.some.inj H
  go_enter Try.func26, Try.ntmps26
  go_wp2_with (first | ((with_reducible refine gate_dst (N := 4) rfl ?_); refine bx 4 27 #[.int .i64 a1_0, .bool a1_1, .int .i64 a1_2] ?_; intro gb106 hg w5 hbox hb; have BK106 := hbox; have GW106 := gs hg; have GE106 := gs hg; replace HB := bs hb; clear hb hbox hg))
  go_ret
  exact ⟨rs, bw⟩
 ·rw [if_neg c4] at H
  have c4b0 : (a2 == 0) = false := beq_eq_false_iff_ne.mpr c4
  have c4b1 : (a2 != 0) = true := bne_iff_ne.mpr c4
  by_cases c6 : a0 > 1
  ·rw [if_pos c6] at H
   have c6b0 : decide (1 < a0) = true := decide_eq_true c6
   clear c6
   by_cases c7 : a1_2 = 0
   ·rw [if_pos c7] at H
    exact absurd H (by simp)
   ·rw [if_neg c7] at H
    have c7b0 : (a1_2 == 0) = false := beq_eq_false_iff_ne.mpr c7
    have c7b1 : (a1_2 != 0) = true := bne_iff_ne.mpr c7
    obtain rfl := Option.some.inj H
    go_enter Try.func26, Try.ntmps26
    go_wp2_with (first | ((with_reducible refine gate_dst (N := 4) rfl ?_); refine bx 4 27 #[.int .i64 a1_0, .bool a1_1, .int .i64 a1_2] ?_; intro gb106 hg w8 hbox hb; have BK106 := hbox; have GW106 := gs hg; have GE106 := gs hg; replace HB := bs hb; clear hb hbox hg; have hcz9_0 := bc BK106 0 (.int .i64 a1_0); have hcz9_1 := bc BK106 1 (.bool a1_1); have hcz9_2 := bc BK106 2 (.int .i64 a1_2); have hfz9_0 := blk_frozen BK106.out 0; have hfz9_1 := blk_frozen BK106.out 1; have hfz9_2 := blk_frozen BK106.out 2))
    go_ret
    exact ⟨rs, bw⟩
  ·rw [if_neg c6] at H
   have c6b0 : decide (1 < a0) = false := decide_eq_false c6
   clear c6
   obtain rfl := Option.some.inj H
   go_enter Try.func26, Try.ntmps26
   go_wp2_with (first | ((with_reducible refine gate_dst (N := 4) rfl ?_); refine bx 4 27 #[.int .i64 a1_0, .bool a1_1, .int .i64 a1_2] ?_; intro gb106 hg w10 hbox hb; have BK106 := hbox; have GW106 := gs hg; have GE106 := gs hg; replace HB := bs hb; clear hb hbox hg))
   go_ret
   exact ⟨rs, bw⟩

/-! ### spec_l1Least: function 39 -/
def spec_l1Least.f (a0 : Int) (a1 : Int) : Option (Int) := if a0 < a1 then (some a0) else (some a1)
set_option maxHeartbeats 8000000 in
set_option maxRecDepth 100000 in
theorem spec_l1Least.calls (a0 : Int) (a1 : Int) (r : Int) (w : World) (h : spec_l1Least.f a0 a1 = some r) :
  Calls Try.prog 39 #[.int .i64 a0, .int .i64 a1] w fun e w' => e = .returned (.int .i64 r) ∧ Drawn0 w w' := by
 unfold spec_l1Least.f at h
 have H := h
 clear h
 by_cases c3 : a0 < a1
 ·rw [if_pos c3] at H
  have c3b0 : decide (a0 < a1) = true := decide_eq_true c3
  clear c3
  obtain rfl := Option.some.inj H
  go_enter Try.func39, Try.ntmps39
  go_wp2
  go_ret
  exact ⟨rs, by repeat (first | exact Drawn0.refl _ | apply Drawn0.step)⟩
 ·rw [if_neg c3] at H
  have c3b0 : decide (a0 < a1) = false := decide_eq_false c3
  clear c3
  obtain rfl := Option.some.inj H
  go_enter Try.func39, Try.ntmps39
  go_wp2
  go_ret
  exact ⟨rs, by repeat (first | exact Drawn0.refl _ | apply Drawn0.step)⟩

/-! ### spec_siAt: function 27 -/
def spec_siAt.f (a0 : Int) (a1_0 : Int) (a1_1 : Bool) (a1_2 : Int) (a2 : Int) : Option (Int) := if a0 = 1 then (some 0) else (if a1_1 = true then (if a1_2 = 0 then (none) else (if (wrap64 (2 * (wrap64 (a0 - 1)))) = 0 then (none) else ((spec_l1Least.f (Int.tmod (wrap64 ((wrap64 ((wrap64 (2 * (wrap64 (a0 - 1)))) - a1_0)) + (wrap64 (Int.tdiv a2 a1_2)))) (wrap64 (2 * (wrap64 (a0 - 1))))) (wrap64 ((wrap64 (2 * (wrap64 (a0 - 1)))) - (Int.tmod (wrap64 ((wrap64 ((wrap64 (2 * (wrap64 (a0 - 1)))) - a1_0)) + (wrap64 (Int.tdiv a2 a1_2)))) (wrap64 (2 * (wrap64 (a0 - 1)))))))).bind fun t108 => (some t108)))) else (if a1_2 = 0 then (none) else (if (wrap64 (2 * (wrap64 (a0 - 1)))) = 0 then (none) else ((spec_l1Least.f (Int.tmod (wrap64 (a1_0 + (wrap64 (Int.tdiv a2 a1_2)))) (wrap64 (2 * (wrap64 (a0 - 1))))) (wrap64 ((wrap64 (2 * (wrap64 (a0 - 1)))) - (Int.tmod (wrap64 (a1_0 + (wrap64 (Int.tdiv a2 a1_2)))) (wrap64 (2 * (wrap64 (a0 - 1)))))))).bind fun t109 => (some t109)))))
set_option maxHeartbeats 8000000 in
set_option maxRecDepth 100000 in
theorem spec_siAt.calls (a0 : Int) (a1_0 : Int) (a1_1 : Bool) (a1_2 : Int) (a2 : Int) (r : Int) (w : World) (h : spec_siAt.f a0 a1_0 a1_1 a1_2 a2 = some r) :
  Calls Try.prog 27 #[.int .i64 a0, .agg #[.int .i64 a1_0, .bool a1_1, .int .i64 a1_2], .int .i64 a2] w fun e w' => e = .returned (.int .i64 r) ∧ Below w.heap.size w w' := by
 have hu27 := Try.underlying27
 have HB := Aside0.mk (Below.refl w.heap.size w)
 unfold spec_siAt.f at h
 have H := h
 clear h
 by_cases c4 : a0 = 1
 ·rw [if_pos c4] at H
  have c4b0 : (a0 == 1) = true := beq_iff_eq.mpr c4
  have c4b1 : (a0 != 1) = false := bne_eq_false_iff_eq.mpr c4
  clear c4
  obtain rfl := Option.some.inj H
  go_enter Try.func27, Try.ntmps27
  go_wp2_with (first | ((with_reducible refine gate_dst (N := 4) rfl ?_); refine bx 4 27 #[.int .i64 a1_0, .bool a1_1, .int .i64 a1_2] ?_; intro gb107 hg w5 hbox hb; have BK107 := hbox; have GW107 := gs hg; have GE107 := gs hg; replace HB := bs hb; clear hb hbox hg))
  go_ret
  exact ⟨rs, bw⟩
 ·rw [if_neg c4] at H
  have c4b0 : (a0 == 1) = false := beq_eq_false_iff_ne.mpr c4
  have c4b1 : (a0 != 1) = true := bne_iff_ne.mpr c4
  by_cases c6 : a1_1 = true
  ·subst c6
   rw [if_pos rfl] at H
   by_cases c7 : a1_2 = 0
   ·rw [if_pos c7] at H
    exact absurd H (by simp)
   ·rw [if_neg c7] at H
    have c7b0 : (a1_2 == 0) = false := beq_eq_false_iff_ne.mpr c7
    have c7b1 : (a1_2 != 0) = true := bne_iff_ne.mpr c7
    by_cases c8 : (wrap64 (2 * (wrap64 (a0 - 1)))) = 0
    ·rw [if_pos c8] at H
     exact absurd H (by simp)
    ·rw [if_neg c8] at H
     have c8b0 : ((wrap64 (2 * (wrap64 (a0 - 1)))) == 0) = false := beq_eq_false_iff_ne.mpr c8
     have c8b1 : ((wrap64 (2 * (wrap64 (a0 - 1)))) != 0) = true := bne_iff_ne.mpr c8
     replace H := Option.bind_eq_some_iff.mp H
     obtain ⟨t108, A90, H⟩ := H
     (try dsimp only at H)
     have A9 := Aside0.mk A90
     clear A90
     obtain rfl := Option.some.inj H
     go_enter Try.func27, Try.ntmps27
     go_wp2_with (first | ((with_reducible refine gate_dst (N := 4) rfl ?_); refine bx 4 27 #[.int .i64 a1_0, .bool true, .int .i64 a1_2] ?_; intro gb107 hg w10 hbox hb; have BK107 := hbox; have GW107 := gs hg; have GE107 := gs hg; replace HB := bs hb; clear hb hbox hg; have hcz11_0 := bc BK107 0 (.int .i64 a1_0); have hcz11_1 := bc BK107 1 (.bool true); have hcz11_2 := bc BK107 2 (.int .i64 a1_2); have hfz11_0 := blk_frozen BK107.out 0; have hfz11_1 := blk_frozen BK107.out 1; have hfz11_2 := blk_frozen BK107.out 2) | ((with_reducible refine gate_callee (f := 39) rfl ?_); refine gl (some 34) Try.func39 #[.int .i64 (Int.tmod (wrap64 ((wrap64 ((wrap64 (2 * (wrap64 (a0 - 1)))) - a1_0)) + (wrap64 (Int.tdiv a2 a1_2)))) (wrap64 (2 * (wrap64 (a0 - 1))))), .int .i64 (wrap64 ((wrap64 (2 * (wrap64 (a0 - 1)))) - (Int.tmod (wrap64 ((wrap64 ((wrap64 (2 * (wrap64 (a0 - 1)))) - a1_0)) + (wrap64 (Int.tdiv a2 a1_2)))) (wrap64 (2 * (wrap64 (a0 - 1)))))))] ?_; (with_reducible refine (spec_l1Least.calls (Int.tmod (wrap64 ((wrap64 ((wrap64 (2 * (wrap64 (a0 - 1)))) - a1_0)) + (wrap64 (Int.tdiv a2 a1_2)))) (wrap64 (2 * (wrap64 (a0 - 1))))) (wrap64 ((wrap64 (2 * (wrap64 (a0 - 1)))) - (Int.tmod (wrap64 ((wrap64 ((wrap64 (2 * (wrap64 (a0 - 1)))) - a1_0)) + (wrap64 (Int.tdiv a2 a1_2)))) (wrap64 (2 * (wrap64 (a0 - 1))))))) t108 _ A9.out).mono ?_); rintro e w' ⟨rfl, ⟨nd, rfl⟩⟩; refine ⟨_, rfl, ?_⟩))
     go_ret
     exact ⟨rs, bw⟩
  ·replace c6 := Bool.eq_false_iff.mpr c6
   subst c6
   rw [if_neg (show ¬ (false = true) by decide)] at H
   by_cases c12 : a1_2 = 0
   ·rw [if_pos c12] at H
    exact absurd H (by simp)
   ·rw [if_neg c12] at H
    have c12b0 : (a1_2 == 0) = false := beq_eq_false_iff_ne.mpr c12
    have c12b1 : (a1_2 != 0) = true := bne_iff_ne.mpr c12
    by_cases c13 : (wrap64 (2 * (wrap64 (a0 - 1)))) = 0
    ·rw [if_pos c13] at H
     exact absurd H (by simp)
    ·rw [if_neg c13] at H
     have c13b0 : ((wrap64 (2 * (wrap64 (a0 - 1)))) == 0) = false := beq_eq_false_iff_ne.mpr c13
     have c13b1 : ((wrap64 (2 * (wrap64 (a0 - 1)))) != 0) = true := bne_iff_ne.mpr c13
     replace H := Option.bind_eq_some_iff.mp H
     obtain ⟨t109, A140, H⟩ := H
     (try dsimp only at H)
     have A14 := Aside0.mk A140
     clear A140
     obtain rfl := Option.some.inj H
     go_enter Try.func27, Try.ntmps27
     go_wp2_with (first | ((with_reducible refine gate_dst (N := 4) rfl ?_); refine bx 4 27 #[.int .i64 a1_0, .bool false, .int .i64 a1_2] ?_; intro gb107 hg w15 hbox hb; have BK107 := hbox; have GW107 := gs hg; have GE107 := gs hg; replace HB := bs hb; clear hb hbox hg; have hcz16_0 := bc BK107 0 (.int .i64 a1_0); have hcz16_1 := bc BK107 1 (.bool false); have hcz16_2 := bc BK107 2 (.int .i64 a1_2); have hfz16_0 := blk_frozen BK107.out 0; have hfz16_1 := blk_frozen BK107.out 1; have hfz16_2 := blk_frozen BK107.out 2) | ((with_reducible refine gate_callee (f := 39) rfl ?_); refine gl (some 34) Try.func39 #[.int .i64 (Int.tmod (wrap64 (a1_0 + (wrap64 (Int.tdiv a2 a1_2)))) (wrap64 (2 * (wrap64 (a0 - 1))))), .int .i64 (wrap64 ((wrap64 (2 * (wrap64 (a0 - 1)))) - (Int.tmod (wrap64 (a1_0 + (wrap64 (Int.tdiv a2 a1_2)))) (wrap64 (2 * (wrap64 (a0 - 1)))))))] ?_; (with_reducible refine (spec_l1Least.calls (Int.tmod (wrap64 (a1_0 + (wrap64 (Int.tdiv a2 a1_2)))) (wrap64 (2 * (wrap64 (a0 - 1))))) (wrap64 ((wrap64 (2 * (wrap64 (a0 - 1)))) - (Int.tmod (wrap64 (a1_0 + (wrap64 (Int.tdiv a2 a1_2)))) (wrap64 (2 * (wrap64 (a0 - 1))))))) t109 _ A14.out).mono ?_); rintro e w' ⟨rfl, ⟨nd, rfl⟩⟩; refine ⟨_, rfl, ?_⟩))
     go_ret
     exact ⟨rs, bw⟩

/-! ### spec_TimesAt: function 7 -/
mutual
def spec_TimesAt.j0 : Nat → Int → Int → Int → Bool → Int → Bool → Int → Option (List Int × Bool)
  | 0, _, _, _, _, _, _, _ => none
  | k + 1, x0, x2, x3, x27, x111000, x111001, x111002 => if x27 = true then (some (([] : List Int), false)) else (spec_TimesAt.l0 k x0 x2 x3 ([] : List Int) 0 x111000 x111001 x111002)
def spec_TimesAt.l0 : Nat → Int → Int → Int → List Int → Int → Int → Bool → Int → Option (List Int × Bool)
  | 0, _, _, _, _, _, _, _, _ => none
  | k + 1, x0, x2, x3, x10, x11, x111000, x111001, x111002 => if x11 ≤ x3 then ((spec_siComes.f x0 x111000 x111001 x111002 x11).bind fun t114 => (if t114 = true then ((spec_siAt.f x0 x111000 x111001 x111002 x11).bind fun t115 => (if t115 = x2 then (if x10.length < 17592186044416 then (spec_TimesAt.l0 k x0 x2 x3 (x10 ++ [x11]) (wrap64 (x11 + 1)) x111000 x111001 x111002) else (none)) else (spec_TimesAt.l0 k x0 x2 x3 x10 (wrap64 (x11 + 1)) x111000 x111001 x111002))) else (spec_TimesAt.l0 k x0 x2 x3 x10 (wrap64 (x11 + 1)) x111000 x111001 x111002))) else (some (x10, true))
end
def spec_TimesAt.f (k : Nat) (a0 : Int) (a1_0 : Int) (a1_1 : Bool) (a1_2 : Int) (a2 : Int) (a3 : Int) : Option (List Int × Bool) := (spec_siSignal.f a0 a1_0 a1_1 a1_2).bind fun t111 => (if t111 = true then ((spec_l1In.f a2 0 (wrap64 (a0 - 1))).bind fun t112 => (if t112 = true then ((spec_l1In.f a3 0 1000).bind fun t113 => (spec_TimesAt.j0 k a0 a2 a3 (!t113) a1_0 a1_1 a1_2)) else (spec_TimesAt.j0 k a0 a2 a3 true a1_0 a1_1 a1_2))) else (spec_TimesAt.j0 k a0 a2 a3 true a1_0 a1_1 a1_2))
theorem spec_TimesAt.mono_l : ∀ k, (∀ y0 y1 y2 y3 y4 y5 y6, LeO (spec_TimesAt.j0 k y0 y1 y2 y3 y4 y5 y6) (spec_TimesAt.j0 (k + 1) y0 y1 y2 y3 y4 y5 y6)) ∧ (∀ y0 y1 y2 y3 y4 y5 y6 y7, LeO (spec_TimesAt.l0 k y0 y1 y2 y3 y4 y5 y6 y7) (spec_TimesAt.l0 (k + 1) y0 y1 y2 y3 y4 y5 y6 y7))
  | 0 => ⟨fun _ _ _ _ _ _ _ r h => by simp [spec_TimesAt.j0] at h, fun _ _ _ _ _ _ _ _ r h => by simp [spec_TimesAt.l0] at h⟩
  | k + 1 => by
    obtain ⟨ih0, ih1⟩ := spec_TimesAt.mono_l k
    refine ⟨?_, ?_⟩
    · intro y0 y1 y2 y3 y4 y5 y6
      unfold spec_TimesAt.j0
      repeat' first
      | (with_reducible exact ih0 _ _ _ _ _ _ _)
      | (with_reducible exact ih1 _ _ _ _ _ _ _ _)
      | (with_reducible exact LeO.refl _)
      | (with_reducible exact LeO.none _)
      | (with_reducible refine LeO.ite ?_ ?_)
      | (with_reducible refine LeO.bind ?_ (fun _ => ?_))
      | exact ih0 _ _ _ _ _ _ _
      | exact ih1 _ _ _ _ _ _ _ _
      | exact LeO.none _
      | refine LeO.ite ?_ ?_
      | refine LeO.bind ?_ (fun _ => ?_)
    · intro y0 y1 y2 y3 y4 y5 y6 y7
      unfold spec_TimesAt.l0
      repeat' first
      | (with_reducible exact ih0 _ _ _ _ _ _ _)
      | (with_reducible exact ih1 _ _ _ _ _ _ _ _)
      | (with_reducible exact LeO.refl _)
      | (with_reducible exact LeO.none _)
      | (with_reducible refine LeO.ite ?_ ?_)
      | (with_reducible refine LeO.bind ?_ (fun _ => ?_))
      | exact ih0 _ _ _ _ _ _ _
      | exact ih1 _ _ _ _ _ _ _ _
      | exact LeO.none _
      | refine LeO.ite ?_ ?_
      | refine LeO.bind ?_ (fun _ => ?_)
theorem spec_TimesAt.mono : ∀ a0 a1 a2 a3 a4 a5 k, LeO (spec_TimesAt.f k a0 a1 a2 a3 a4 a5) (spec_TimesAt.f (k + 1) a0 a1 a2 a3 a4 a5) := by
  intro a0 a1 a2 a3 a4 a5 k
  obtain ⟨ih0, ih1⟩ := spec_TimesAt.mono_l k
  unfold spec_TimesAt.f
  repeat' first
      | (with_reducible exact ih0 _ _ _ _ _ _ _)
      | (with_reducible exact ih1 _ _ _ _ _ _ _ _)
      | (with_reducible exact LeO.refl _)
      | (with_reducible exact LeO.none _)
      | (with_reducible refine LeO.ite ?_ ?_)
      | (with_reducible refine LeO.bind ?_ (fun _ => ?_))
      | exact ih0 _ _ _ _ _ _ _
      | exact ih1 _ _ _ _ _ _ _ _
      | exact LeO.none _
      | refine LeO.ite ?_ ?_
      | refine LeO.bind ?_ (fun _ => ?_)
set_option maxHeartbeats 8000000 in
set_option maxRecDepth 100000 in
theorem spec_TimesAt.calls (k : Nat) (a0 : Int) (a1_0 : Int) (a1_1 : Bool) (a1_2 : Int) (a2 : Int) (a3 : Int) (r1 : List Int) (r2 : Bool) (w : World) (h : spec_TimesAt.f k a0 a1_0 a1_1 a1_2 a2 a3 = some (r1, r2)) :
  Calls Try.prog 7 #[.int .i64 a0, .agg #[.int .i64 a1_0, .bool a1_1, .int .i64 a1_2], .int .i64 a2, .int .i64 a3] w fun e w' => ∃ v0_ : Value, e = .returned (.tuple #[v0_, .bool r2]) ∧ Kd.R (Kd.int .i64) 3 w' w.heap.size (fun _ => True) v0_ r1 ∧ Below w.heap.size w w' := by
 have hu27 := Try.underlying27
 have HB := Aside0.mk (Below.refl w.heap.size w)
 unfold spec_TimesAt.f at h
 have H := h
 clear h
 have HC5 := Aside0.mk H
 clear H
 go_enter Try.func7, Try.ntmps7
 go_upto_region 1 with (first | ((with_reducible refine gate_dst (N := 5) rfl ?_); refine bx 5 27 #[.int .i64 a1_0, .bool a1_1, .int .i64 a1_2] ?_; intro gb110 hg w6 hbox hb; have BK110 := hbox; have GW110 := gs hg; have GE110 := gs hg; replace HB := bs hb; clear hb hbox hg))
 (try simp only [Act.put, List.setIfInBounds_toArray, List.set_cons_zero, List.set_cons_succ])
 go_cut [27] (fun v27 wc => ∃ (kq : Nat) (x27_4 : Bool), v27 = .bool x27_4 ∧ Aside0 (spec_TimesAt.j0 kq a0 a2 a3 x27_4 a1_0 a1_1 a1_2 = some (r1, r2)) ∧ Aside0 (kq ≤ k) ∧ Aside0 (wc.heap[gb110]? = some (.cells #[.int .i64 a1_0, .bool a1_1, .int .i64 a1_2] 27 (0, 0))) ∧ Aside0 (Below w.heap.size w wc))
 case first =>
  have H := HC5.out
  clear HC5
  replace H := Option.bind_eq_some_iff.mp H
  obtain ⟨t111, A70, H⟩ := H
  (try dsimp only at H)
  have A7 := Aside0.mk A70
  clear A70
  by_cases c8 : t111 = true
  ·subst c8
   rw [if_pos rfl] at H
   replace H := Option.bind_eq_some_iff.mp H
   obtain ⟨t112, A90, H⟩ := H
   (try dsimp only at H)
   have A9 := Aside0.mk A90
   clear A90
   by_cases c10 : t112 = true
   ·subst c10
    rw [if_pos rfl] at H
    replace H := Option.bind_eq_some_iff.mp H
    obtain ⟨t113, A110, H⟩ := H
    (try dsimp only at H)
    have A11 := Aside0.mk A110
    clear A110
    have H' := Aside0.mk H
    clear H
    have hcz12_0 := bc BK110 0 (.int .i64 a1_0)
    have hcz12_1 := bc BK110 1 (.bool a1_1)
    have hcz12_2 := bc BK110 2 (.int .i64 a1_2)
    have hfz12_0 := blk_frozen BK110.out 0
    have hfz12_1 := blk_frozen BK110.out 1
    have hfz12_2 := blk_frozen BK110.out 2
    go_wp2_with (first | ((with_reducible refine gate_callee (f := 24) rfl ?_); refine gl (some 14) Try.func24 #[.int .i64 a0, .agg #[.int .i64 a1_0, .bool a1_1, .int .i64 a1_2]] ?_; (with_reducible refine (spec_siSignal.calls a0 a1_0 a1_1 a1_2 true _ A7.out).mono ?_); rintro e w13 ⟨rfl, hb⟩; refine ⟨_, rfl, ?_⟩; replace BK110 := nk BK110 hb; replace HB := bs hb; (try clear hb)) | (go_at_call 25; (with_reducible refine (spec_l1In.calls a2 0 (wrap64 (a0 - 1)) true _ A9.out).mono ?_); rintro e w' ⟨rfl, ⟨nd, rfl⟩⟩) | (go_at_call 25; (with_reducible refine (spec_l1In.calls a3 0 1000 t113 _ A11.out).mono ?_); rintro e w' ⟨rfl, ⟨nd, rfl⟩⟩))
    go_meet
    case rel => exact ⟨_, (!t113), (rs), H', ⟨by first | omega | exact Nat.le_refl _⟩, ⟨pk BK110⟩, ⟨bw⟩⟩
   ·replace c10 := Bool.eq_false_iff.mpr c10
    subst c10
    rw [if_neg (show ¬ (false = true) by decide)] at H
    have H' := Aside0.mk H
    clear H
    have hcz14_0 := bc BK110 0 (.int .i64 a1_0)
    have hcz14_1 := bc BK110 1 (.bool a1_1)
    have hcz14_2 := bc BK110 2 (.int .i64 a1_2)
    have hfz14_0 := blk_frozen BK110.out 0
    have hfz14_1 := blk_frozen BK110.out 1
    have hfz14_2 := blk_frozen BK110.out 2
    go_wp2_with (first | ((with_reducible refine gate_callee (f := 24) rfl ?_); refine gl (some 14) Try.func24 #[.int .i64 a0, .agg #[.int .i64 a1_0, .bool a1_1, .int .i64 a1_2]] ?_; (with_reducible refine (spec_siSignal.calls a0 a1_0 a1_1 a1_2 true _ A7.out).mono ?_); rintro e w15 ⟨rfl, hb⟩; refine ⟨_, rfl, ?_⟩; replace BK110 := nk BK110 hb; replace HB := bs hb; (try clear hb)) | (go_at_call 25; (with_reducible refine (spec_l1In.calls a2 0 (wrap64 (a0 - 1)) false _ A9.out).mono ?_); rintro e w' ⟨rfl, ⟨nd, rfl⟩⟩))
    go_meet
    case rel => exact ⟨_, (true), (rs), H', ⟨by first | omega | exact Nat.le_refl _⟩, ⟨pk BK110⟩, ⟨bw⟩⟩
  ·replace c8 := Bool.eq_false_iff.mpr c8
   subst c8
   rw [if_neg (show ¬ (false = true) by decide)] at H
   have H' := Aside0.mk H
   clear H
   have hcz16_0 := bc BK110 0 (.int .i64 a1_0)
   have hcz16_1 := bc BK110 1 (.bool a1_1)
   have hcz16_2 := bc BK110 2 (.int .i64 a1_2)
   have hfz16_0 := blk_frozen BK110.out 0
   have hfz16_1 := blk_frozen BK110.out 1
   have hfz16_2 := blk_frozen BK110.out 2
   go_wp2_with (first | ((with_reducible refine gate_callee (f := 24) rfl ?_); refine gl (some 14) Try.func24 #[.int .i64 a0, .agg #[.int .i64 a1_0, .bool a1_1, .int .i64 a1_2]] ?_; (with_reducible refine (spec_siSignal.calls a0 a1_0 a1_1 a1_2 false _ A7.out).mono ?_); rintro e w17 ⟨rfl, hb⟩; refine ⟨_, rfl, ?_⟩; replace BK110 := nk BK110 hb; replace HB := bs hb; (try clear hb)))
   go_meet
   case rel => exact ⟨_, (true), (rs), H', ⟨by first | omega | exact Nat.le_refl _⟩, ⟨pk BK110⟩, ⟨bw⟩⟩
 case rest =>
  clear HC5
  try clear c1
  try clear c2
  try clear p2
  try clear p6
  try clear c7
  try clear c8
  try clear c10
  try clear hcz12_0
  try clear hcz12_1
  try clear hcz12_2
  try clear hcz14_0
  try clear hcz14_1
  try clear hcz14_2
  try clear hcz16_0
  try clear hcz16_1
  try clear hcz16_2
  try clear hfz12_0
  try clear hfz12_1
  try clear hfz12_2
  try clear hfz14_0
  try clear hfz14_1
  try clear hfz14_2
  try clear hfz16_0
  try clear hfz16_1
  try clear hfz16_2
  obtain ⟨kq, x27_4, rfl, HA, HJ4, BK110, HB⟩ := hcut
  cases kq with
  | zero => exact absurd HA.out (by simp [spec_TimesAt.j0])
  | succ kj4 =>
   have H := HA.out
   clear HA
   simp only [spec_TimesAt.j0] at H
   by_cases c18 : x27_4 = true
   ·subst c18
    rw [if_pos rfl] at H
    simp only [Option.some.injEq, Prod.mk.injEq] at H
    obtain ⟨rfl, rfl⟩ := H
    go_wp2
    go_ret2
    exact ⟨_, rs, by first | exact Kd.R_nil _ _ _ _ _ | exact Kd.N_nil _ _ _ _ _ | exact Kd.V_nil _ _ _ _ _ | exact Kd.Q_nil _ _ _ _ _ | exact Kd.S_nil _ _ _ _ _, bw⟩
   ·replace c18 := Bool.eq_false_iff.mpr c18
    subst c18
    rw [if_neg (show ¬ (false = true) by decide)] at H
    have H' := Aside0.mk H
    clear H
    go_wp2
    go_loopg [10, 11] kj4 (fun kq v10 v11 w' => ∃ (x10_2 : List Int) (x11_2 : Int), v11 = .int .i64 x11_2 ∧ Aside0 (spec_TimesAt.l0 kq a0 a2 a3 x10_2 x11_2 a1_0 a1_1 a1_2 = some (r1, r2)) ∧ Aside0 (kq ≤ kj4) ∧ Aside0 (Kd.R (Kd.int .i64) 3 w' w.heap.size (fun _ => True) v10 x10_2) ∧ Aside0 (w'.heap[gb110]? = some (.cells #[.int .i64 a1_0, .bool a1_1, .int .i64 a1_2] 27 (0, 0))) ∧ Aside0 (Below w.heap.size w w'))
    case atStart => exact ⟨(([] : List Int)), (0), (rs), H', ⟨Nat.le_refl _⟩, ⟨by first | exact Kd.R_nil _ _ _ _ _ | exact Kd.N_nil _ _ _ _ _ | exact Kd.V_nil _ _ _ _ _ | exact Kd.Q_nil _ _ _ _ _ | exact Kd.S_nil _ _ _ _ _⟩, ⟨pk BK110⟩, ⟨bw⟩⟩
    case round =>
     clear H'
     try clear c1
     try clear c2
     try clear p2
     try clear p6
     try clear c7
     try clear c8
     try clear c10
     try clear c18
     try clear hcz12_0
     try clear hcz12_1
     try clear hcz12_2
     try clear hcz14_0
     try clear hcz14_1
     try clear hcz14_2
     try clear hcz16_0
     try clear hcz16_1
     try clear hcz16_2
     try clear hfz12_0
     try clear hfz12_1
     try clear hfz12_2
     try clear hfz14_0
     try clear hfz14_1
     try clear hfz14_2
     try clear hfz16_0
     try clear hfz16_1
     try clear hfz16_2
     try clear p2
     try clear p6
     obtain ⟨x10_2, x11_2, rfl, HA, HK2, HO_10, BK110, HB⟩ := hrel
     cases gk with
     | zero => exact absurd HA.out (by simp [spec_TimesAt.l0])
     | succ k2 =>
      have H := HA.out
      clear HA
      simp only [spec_TimesAt.l0] at H
      by_cases c19 : x11_2 ≤ a3
      ·rw [if_pos c19] at H
       have c19b0 : decide (x11_2 ≤ a3) = true := decide_eq_true c19
       clear c19
       replace H := Option.bind_eq_some_iff.mp H
       obtain ⟨t114, A200, H⟩ := H
       (try dsimp only at H)
       have A20 := Aside0.mk A200
       clear A200
       by_cases c21 : t114 = true
       ·subst c21
        rw [if_pos rfl] at H
        replace H := Option.bind_eq_some_iff.mp H
        obtain ⟨t115, A220, H⟩ := H
        (try dsimp only at H)
        have A22 := Aside0.mk A220
        clear A220
        by_cases c23 : t115 = a2
        ·rw [if_pos c23] at H
         have c23b0 : (t115 == a2) = true := beq_iff_eq.mpr c23
         have c23b1 : (t115 != a2) = false := bne_eq_false_iff_eq.mpr c23
         clear c23
         by_cases c24 : x10_2.length < 17592186044416
         ·rw [if_pos c24] at H
          have LMc24 := Aside0.mk c24
          clear c24
          obtain ⟨y116, hy116⟩ : ∃ y_ : List Int, y_ = (x10_2 ++ [x11_2]) := ⟨_, rfl⟩
          replace H : (spec_TimesAt.l0 k2 a0 a2 a3 y116 (wrap64 (x11_2 + 1)) a1_0 a1_1 a1_2) = some (r1, r2) := by first | (rw [hy116]; with_reducible exact H) | (have H2_ := (Option.bind_some _ _).symm.trans H; rw [hy116]; with_reducible exact H2_) | (have H2_ := (Option.bind_some _ _).symm.trans H; with_reducible exact H2_) | with_reducible exact H | (rw [hy116]; exact H) | exact H
          have Ny116 := Aside0.mk hy116
          clear hy116
          have H' := Aside0.mk H
          clear H
          have hcz25_0 : wr.cell? ⟨gb110, 0, none⟩ = some (.int .i64 a1_0) := ec BK110
          have hcz25_1 : wr.cell? ⟨gb110, 1, none⟩ = some (.bool a1_1) := ec BK110
          have hcz25_2 : wr.cell? ⟨gb110, 2, none⟩ = some (.int .i64 a1_2) := ec BK110
          have hfz25_0 := blk_frozen BK110.out 0
          have hfz25_1 := blk_frozen BK110.out 1
          have hfz25_2 := blk_frozen BK110.out 2
          go_wp2_with (first | ((with_reducible refine gate_callee (f := 26) rfl ?_); refine gl (some 36) Try.func26 #[.int .i64 a0, .agg #[.int .i64 a1_0, .bool a1_1, .int .i64 a1_2], .int .i64 x11_2] ?_; (with_reducible refine (spec_siComes.calls a0 a1_0 a1_1 a1_2 x11_2 true _ A20.out).mono ?_); rintro e w26 ⟨rfl, hb⟩; refine ⟨_, rfl, ?_⟩; replace HO_10 := Aside0.mk (Kd.R_below (pr HO_10) hb); replace BK110 := nk BK110 hb; replace HB := bs hb; (try clear hb); have hcz27_0 := bc BK110 0 (.int .i64 a1_0); have hcz27_1 := bc BK110 1 (.bool a1_1); have hcz27_2 := bc BK110 2 (.int .i64 a1_2); have hfz27_0 := blk_frozen BK110.out 0; have hfz27_1 := blk_frozen BK110.out 1; have hfz27_2 := blk_frozen BK110.out 2) | (go_at_call 27; (with_reducible refine (spec_siAt.calls a0 a1_0 a1_1 a1_2 x11_2 t115 _ A22.out).mono ?_); rintro e w28 ⟨rfl, hb⟩; replace HO_10 := Aside0.mk (Kd.R_below (pr HO_10) hb); replace BK110 := nk BK110 hb; replace HB := bs hb; (try clear hb)) | ((with_reducible refine gate_builtin (b := .append) (xs := #[.tmp 45, .tmp 47]) rfl ?_); at_builtin; refine Kd.R_append (Kd.int .i64) (w0 := w) w.heap.size rfl (.tmp 45) (.tmp 47) 24 3 (.int .i64 0) 8 rfl Try.underlying24 info3 rfl (by decide) (by omega) u10 x10_2 x11_2 [.int .i64 x11_2] (fun _ => True) (fun _ => False) rfl rfl ?aP (fun _ hk => hk.elim) ?aF ?aO ?aB ?aS ?aL ?_; (case aP => exact rfl); (case aB => exact bw); (case aF => exact (fun _ _ => trivial)); (case aO => exact (pr HO_10)); (case aS => exact (below_size bw)); (case aL => have := LMc24.out; omega); intro v117 w29 ho hb hg hat; rw [← Ny116.out] at ho; have n0_ := Aside0.mk (blk_grown (pk BK110) hg (Kd.R_ne HO_10.out BK110.out (by decide))); have n1_ := Aside0.mk (hb); have n2_ := Aside0.mk (ho); clear BK110; clear HB; clear HO_10; have BK110 := n0_; have HB := n1_; have HO118 := n2_; clear n0_ n1_ n2_; clear ho hb hg hat))
          go_roundg k2
          case measure => have := HJ4.out; have := HK2.out; omega
          case rel => exact ⟨(y116), (wrap64 (x11_2 + 1)), (rs), H', ⟨by have := HJ4.out; have := HK2.out; omega⟩, ⟨pr HO118⟩, ⟨pk BK110⟩, ⟨bw⟩⟩
         ·rw [if_neg c24] at H
          exact absurd H (by simp)
        ·rw [if_neg c23] at H
         have c23b0 : (t115 == a2) = false := beq_eq_false_iff_ne.mpr c23
         have c23b1 : (t115 != a2) = true := bne_iff_ne.mpr c23
         have H' := Aside0.mk H
         clear H
         have hcz30_0 : wr.cell? ⟨gb110, 0, none⟩ = some (.int .i64 a1_0) := ec BK110
         have hcz30_1 : wr.cell? ⟨gb110, 1, none⟩ = some (.bool a1_1) := ec BK110
         have hcz30_2 : wr.cell? ⟨gb110, 2, none⟩ = some (.int .i64 a1_2) := ec BK110
         have hfz30_0 := blk_frozen BK110.out 0
         have hfz30_1 := blk_frozen BK110.out 1
         have hfz30_2 := blk_frozen BK110.out 2
         go_wp2_with (first | ((with_reducible refine gate_callee (f := 26) rfl ?_); refine gl (some 36) Try.func26 #[.int .i64 a0, .agg #[.int .i64 a1_0, .bool a1_1, .int .i64 a1_2], .int .i64 x11_2] ?_; (with_reducible refine (spec_siComes.calls a0 a1_0 a1_1 a1_2 x11_2 true _ A20.out).mono ?_); rintro e w31 ⟨rfl, hb⟩; refine ⟨_, rfl, ?_⟩; replace HO_10 := Aside0.mk (Kd.R_below (pr HO_10) hb); replace BK110 := nk BK110 hb; replace HB := bs hb; (try clear hb); have hcz32_0 := bc BK110 0 (.int .i64 a1_0); have hcz32_1 := bc BK110 1 (.bool a1_1); have hcz32_2 := bc BK110 2 (.int .i64 a1_2); have hfz32_0 := blk_frozen BK110.out 0; have hfz32_1 := blk_frozen BK110.out 1; have hfz32_2 := blk_frozen BK110.out 2) | (go_at_call 27; (with_reducible refine (spec_siAt.calls a0 a1_0 a1_1 a1_2 x11_2 t115 _ A22.out).mono ?_); rintro e w33 ⟨rfl, hb⟩; replace HO_10 := Aside0.mk (Kd.R_below (pr HO_10) hb); replace BK110 := nk BK110 hb; replace HB := bs hb; (try clear hb)))
         go_roundg k2
         case measure => have := HJ4.out; have := HK2.out; omega
         case rel => exact ⟨(x10_2), (wrap64 (x11_2 + 1)), (rs), H', ⟨by have := HJ4.out; have := HK2.out; omega⟩, ⟨pr HO_10⟩, ⟨pk BK110⟩, ⟨bw⟩⟩
       ·replace c21 := Bool.eq_false_iff.mpr c21
        subst c21
        rw [if_neg (show ¬ (false = true) by decide)] at H
        have H' := Aside0.mk H
        clear H
        have hcz34_0 : wr.cell? ⟨gb110, 0, none⟩ = some (.int .i64 a1_0) := ec BK110
        have hcz34_1 : wr.cell? ⟨gb110, 1, none⟩ = some (.bool a1_1) := ec BK110
        have hcz34_2 : wr.cell? ⟨gb110, 2, none⟩ = some (.int .i64 a1_2) := ec BK110
        have hfz34_0 := blk_frozen BK110.out 0
        have hfz34_1 := blk_frozen BK110.out 1
        have hfz34_2 := blk_frozen BK110.out 2
        go_wp2_with (first | ((with_reducible refine gate_callee (f := 26) rfl ?_); refine gl (some 36) Try.func26 #[.int .i64 a0, .agg #[.int .i64 a1_0, .bool a1_1, .int .i64 a1_2], .int .i64 x11_2] ?_; (with_reducible refine (spec_siComes.calls a0 a1_0 a1_1 a1_2 x11_2 false _ A20.out).mono ?_); rintro e w35 ⟨rfl, hb⟩; refine ⟨_, rfl, ?_⟩; replace HO_10 := Aside0.mk (Kd.R_below (pr HO_10) hb); replace BK110 := nk BK110 hb; replace HB := bs hb; (try clear hb)))
        go_roundg k2
        case measure => have := HJ4.out; have := HK2.out; omega
        case rel => exact ⟨(x10_2), (wrap64 (x11_2 + 1)), (rs), H', ⟨by have := HJ4.out; have := HK2.out; omega⟩, ⟨pr HO_10⟩, ⟨pk BK110⟩, ⟨bw⟩⟩
      ·rw [if_neg c19] at H
       have c19b0 : decide (x11_2 ≤ a3) = false := decide_eq_false c19
       clear c19
       simp only [Option.some.injEq, Prod.mk.injEq] at H
       obtain ⟨rfl, rfl⟩ := H
       go_wp2
       go_ret2
       exact ⟨_, rs, pr HO_10, bw⟩

/-! ### laws_toSignal: function 8 -/
def laws_toSignal.f (a0_0 : Int) (a0_1 : Bool) (a0_2 : Int) : Option (Int × Bool × Int) := some (a0_0, a0_1, a0_2)
set_option maxHeartbeats 8000000 in
set_option maxRecDepth 100000 in
theorem laws_toSignal.calls (a0_0 : Int) (a0_1 : Bool) (a0_2 : Int) (r1 : Int) (r2 : Bool) (r3 : Int) (w : World) (h : laws_toSignal.f a0_0 a0_1 a0_2 = some (r1, r2, r3)) :
  Calls Try.prog 8 #[.agg #[.int .i64 a0_0, .bool a0_1, .int .i64 a0_2]] w fun e w' => e = .returned (.agg #[.int .i64 r1, .bool r2, .int .i64 r3]) ∧ Below w.heap.size w w' := by
 have hu23 := Try.underlying23
 have hu27 := Try.underlying27
 have HB := Aside0.mk (Below.refl w.heap.size w)
 unfold laws_toSignal.f at h
 have H := h
 clear h
 simp only [Option.some.injEq, Prod.mk.injEq] at H
 obtain ⟨rfl, rfl, rfl⟩ := H
 go_enter Try.func8, Try.ntmps8
 go_wp2_with (first | ((with_reducible refine gate_dst (N := 1) rfl ?_); refine bx 1 23 #[.int .i64 a0_0, .bool a0_1, .int .i64 a0_2] ?_; intro gb119 hg w2 hbox hb; have BK119 := hbox; have GW119 := gs hg; have GE119 := gs hg; replace HB := bs hb; clear hb hbox hg) | ((with_reducible refine gate_dst (N := 2) rfl ?_); refine bx 2 27 #[.int .i64 0, .bool false, .int .i64 0] ?_; intro gb120 hg w3 hbox hb; have BK120 := hbox; have GW120 := gs hg; have GE120 := gs hg; replace HB := bs hb; have NB119_120 := nl BK119 hg; have NB120_119 := ng BK119 hg; replace BK119 := nk BK119 hb; clear hb hbox hg) | ((with_reducible refine gate_dst (N := 3) rfl ?_); refine bx 3 27 #[.int .i64 0, .bool false, .int .i64 0] ?_; intro gb121 hg w4 hbox hb; have BK121 := hbox; have GW121 := gs hg; have GE121 := gs hg; replace HB := bs hb; have NB119_121 := nl BK119 hg; have NB121_119 := ng BK119 hg; replace BK119 := nk BK119 hb; have NB120_121 := nl BK120 hg; have NB121_120 := ng BK120 hg; replace BK120 := nk BK120 hb; clear hb hbox hg; have hnb5 := NB119_120.out; have hnc5 := NB120_119.out; have hnb6 := NB119_121.out; have hnc6 := NB121_119.out; have hcz7_0 := bc BK119 0 (.int .i64 a0_0); have hcz7_1 := bc BK119 1 (.bool a0_1); have hcz7_2 := bc BK119 2 (.int .i64 a0_2); have hfz7_0 := blk_frozen BK119.out 0; have hfz7_1 := blk_frozen BK119.out 1; have hfz7_2 := blk_frozen BK119.out 2; have hnb8 := NB121_120.out; have hnc8 := NB120_121.out; have hcz9_0 := bc BK121 0 (.int .i64 0); have hcz9_1 := bc BK121 1 (.bool false); have hcz9_2 := bc BK121 2 (.int .i64 0); have hfz9_0 := blk_frozen BK121.out 0; have hfz9_1 := blk_frozen BK121.out 1; have hfz9_2 := blk_frozen BK121.out 2; have hcz10_0 := bc BK120 0 (.int .i64 0); have hcz10_1 := bc BK120 1 (.bool false); have hcz10_2 := bc BK120 2 (.int .i64 0); have hfz10_0 := blk_frozen BK120.out 0; have hfz10_1 := blk_frozen BK120.out 1; have hfz10_2 := blk_frozen BK120.out 2))
 refine bodyPost_ret (results_cell_row rfl _ _ gb120 27 #[.int .i64 a0_0, .bool a0_1, .int .i64 a0_2] (0, 0) _ rfl (by (with_reducible repeat (first | refine blk_drewN ?_ _ | refine blk_drew ?_ | refine blk_alloc ?_ _)); refine blk_put (cs := #[.int .i64 a0_0, .bool a0_1, .int .i64 0]) ?_ 2 _ rfl; (with_reducible repeat (first | refine blk_drewN ?_ _ | refine blk_drew ?_ | refine blk_alloc ?_ _)); refine blk_put (cs := #[.int .i64 a0_0, .bool false, .int .i64 0]) ?_ 1 _ rfl; (with_reducible repeat (first | refine blk_drewN ?_ _ | refine blk_drew ?_ | refine blk_alloc ?_ _)); refine blk_put (cs := #[.int .i64 0, .bool false, .int .i64 0]) ?_ 0 _ rfl; (with_reducible repeat (first | refine blk_drewN ?_ _ | refine blk_drew ?_ | refine blk_alloc ?_ _)); refine blk_far ?_ NB120_121.out _; (with_reducible repeat (first | refine blk_drewN ?_ _ | refine blk_drew ?_ | refine blk_alloc ?_ _)); refine blk_far ?_ NB120_121.out _; (with_reducible repeat (first | refine blk_drewN ?_ _ | refine blk_drew ?_ | refine blk_alloc ?_ _)); refine blk_far ?_ NB120_121.out _; (with_reducible repeat (first | refine blk_drewN ?_ _ | refine blk_drew ?_ | refine blk_alloc ?_ _)); exact BK120.out) Try.underlying27 rfl (by kernel_rfl)) rfl ?_
 exact ⟨rs, bw⟩

/-! ### impl_in: function 29 -/
def impl_in.f (a0 : Int) (a1 : Int) (a2 : Int) : Option (Bool) := if a1 ≤ a0 then (some (decide (a0 ≤ a2))) else (some false)
set_option maxHeartbeats 8000000 in
set_option maxRecDepth 100000 in
theorem impl_in.calls (a0 : Int) (a1 : Int) (a2 : Int) (r : Bool) (w : World) (h : impl_in.f a0 a1 a2 = some r) :
  Calls Try.prog 29 #[.int .i64 a0, .int .i64 a1, .int .i64 a2] w fun e w' => e = .returned (.bool r) ∧ Drawn0 w w' := by
 unfold impl_in.f at h
 have H := h
 clear h
 by_cases c4 : a1 ≤ a0
 ·rw [if_pos c4] at H
  have c4b0 : decide (a1 ≤ a0) = true := decide_eq_true c4
  clear c4
  obtain rfl := Option.some.inj H
  go_enter Try.func29, Try.ntmps29
  go_wp2
  go_ret
  exact ⟨rs, by repeat (first | exact Drawn0.refl _ | apply Drawn0.step)⟩
 ·rw [if_neg c4] at H
  have c4b0 : decide (a1 ≤ a0) = false := decide_eq_false c4
  clear c4
  obtain rfl := Option.some.inj H
  go_enter Try.func29, Try.ntmps29
  go_wp2
  go_ret
  exact ⟨rs, by repeat (first | exact Drawn0.refl _ | apply Drawn0.step)⟩

/-! ### impl_isSignalRow: function 47 -/
def impl_isSignalRow.f (a0 : Int) : Option (Bool) := (impl_in.f a0 1 100).bind fun t122 => (some t122)
set_option maxHeartbeats 8000000 in
set_option maxRecDepth 100000 in
theorem impl_isSignalRow.calls (a0 : Int) (r : Bool) (w : World) (h : impl_isSignalRow.f a0 = some r) :
  Calls Try.prog 47 #[.int .i64 a0] w fun e w' => e = .returned (.bool r) ∧ Drawn0 w w' := by
 unfold impl_isSignalRow.f at h
 have H := h
 clear h
 replace H := Option.bind_eq_some_iff.mp H
 obtain ⟨t122, A20, H⟩ := H
 (try dsimp only at H)
 have A2 := Aside0.mk A20
 clear A20
 obtain rfl := Option.some.inj H
 go_enter Try.func47, Try.ntmps47
 go_wp2_with (first | ((with_reducible refine gate_callee (f := 29) rfl ?_); refine gl (some 4) Try.func29 #[.int .i64 a0, .int .i64 1, .int .i64 100] ?_; (with_reducible refine (impl_in.calls a0 1 100 t122 _ A2.out).mono ?_); rintro e w' ⟨rfl, ⟨nd, rfl⟩⟩; refine ⟨_, rfl, ?_⟩))
 go_ret
 exact ⟨rs, by repeat (first | exact Drawn0.refl _ | apply Drawn0.step)⟩

/-! ### impl_isSignal: function 28 -/
def impl_isSignal.f (a0 : Int) (a1_0 : Int) (a1_1 : Bool) (a1_2 : Int) : Option (Bool) := (impl_isSignalRow.f a0).bind fun t124 => (if t124 = true then ((impl_in.f a1_0 0 (wrap64 (a0 - 1))).bind fun t125 => (if t125 = true then ((impl_in.f a1_2 1 10).bind fun t126 => (some t126)) else (some false))) else (some false))
set_option maxHeartbeats 8000000 in
set_option maxRecDepth 100000 in
theorem impl_isSignal.calls (a0 : Int) (a1_0 : Int) (a1_1 : Bool) (a1_2 : Int) (r : Bool) (w : World) (h : impl_isSignal.f a0 a1_0 a1_1 a1_2 = some r) :
  Calls Try.prog 28 #[.int .i64 a0, .agg #[.int .i64 a1_0, .bool a1_1, .int .i64 a1_2]] w fun e w' => e = .returned (.bool r) ∧ Below w.heap.size w w' := by
 have hu27 := Try.underlying27
 have HB := Aside0.mk (Below.refl w.heap.size w)
 unfold impl_isSignal.f at h
 have H := h
 clear h
 replace H := Option.bind_eq_some_iff.mp H
 obtain ⟨t124, A30, H⟩ := H
 (try dsimp only at H)
 have A3 := Aside0.mk A30
 clear A30
 by_cases c4 : t124 = true
 ·subst c4
  rw [if_pos rfl] at H
  replace H := Option.bind_eq_some_iff.mp H
  obtain ⟨t125, A50, H⟩ := H
  (try dsimp only at H)
  have A5 := Aside0.mk A50
  clear A50
  by_cases c6 : t125 = true
  ·subst c6
   rw [if_pos rfl] at H
   replace H := Option.bind_eq_some_iff.mp H
   obtain ⟨t126, A70, H⟩ := H
   (try dsimp only at H)
   have A7 := Aside0.mk A70
   clear A70
   obtain rfl := Option.some.inj H
   go_enter Try.func28, Try.ntmps28
   go_wp2_with (first | ((with_reducible refine gate_dst (N := 3) rfl ?_); refine bx 3 27 #[.int .i64 a1_0, .bool a1_1, .int .i64 a1_2] ?_; intro gb123 hg w8 hbox hb; have BK123 := hbox; have GW123 := gs hg; have GE123 := gs hg; replace HB := bs hb; clear hb hbox hg) | ((with_reducible refine gate_callee (f := 47) rfl ?_); refine gl (some 6) Try.func47 #[.int .i64 a0] ?_; (with_reducible refine (impl_isSignalRow.calls a0 true _ A3.out).mono ?_); rintro e w' ⟨rfl, ⟨nd, rfl⟩⟩; refine ⟨_, rfl, ?_⟩; have hcz9_0 := bc BK123 0 (.int .i64 a1_0); have hcz9_1 := bc BK123 1 (.bool a1_1); have hcz9_2 := bc BK123 2 (.int .i64 a1_2); have hfz9_0 := blk_frozen BK123.out 0; have hfz9_1 := blk_frozen BK123.out 1; have hfz9_2 := blk_frozen BK123.out 2) | (go_at_call 29; (with_reducible refine (impl_in.calls a1_0 0 (wrap64 (a0 - 1)) true _ A5.out).mono ?_); rintro e w' ⟨rfl, ⟨nd, rfl⟩⟩) | (go_at_call 29; (with_reducible refine (impl_in.calls a1_2 1 10 t126 _ A7.out).mono ?_); rintro e w' ⟨rfl, ⟨nd, rfl⟩⟩))
   go_ret
   exact ⟨rs, bw⟩
  ·replace c6 := Bool.eq_false_iff.mpr c6
   subst c6
   rw [if_neg (show ¬ (false = true) by decide)] at H
   obtain rfl := Option.some.inj H
   go_enter Try.func28, Try.ntmps28
   go_wp2_with (first | ((with_reducible refine gate_dst (N := 3) rfl ?_); refine bx 3 27 #[.int .i64 a1_0, .bool a1_1, .int .i64 a1_2] ?_; intro gb123 hg w10 hbox hb; have BK123 := hbox; have GW123 := gs hg; have GE123 := gs hg; replace HB := bs hb; clear hb hbox hg) | ((with_reducible refine gate_callee (f := 47) rfl ?_); refine gl (some 6) Try.func47 #[.int .i64 a0] ?_; (with_reducible refine (impl_isSignalRow.calls a0 true _ A3.out).mono ?_); rintro e w' ⟨rfl, ⟨nd, rfl⟩⟩; refine ⟨_, rfl, ?_⟩; have hcz11_0 := bc BK123 0 (.int .i64 a1_0); have hcz11_1 := bc BK123 1 (.bool a1_1); have hcz11_2 := bc BK123 2 (.int .i64 a1_2); have hfz11_0 := blk_frozen BK123.out 0; have hfz11_1 := blk_frozen BK123.out 1; have hfz11_2 := blk_frozen BK123.out 2) | (go_at_call 29; (with_reducible refine (impl_in.calls a1_0 0 (wrap64 (a0 - 1)) false _ A5.out).mono ?_); rintro e w' ⟨rfl, ⟨nd, rfl⟩⟩))
   go_ret
   exact ⟨rs, bw⟩
 ·replace c4 := Bool.eq_false_iff.mpr c4
  subst c4
  rw [if_neg (show ¬ (false = true) by decide)] at H
  obtain rfl := Option.some.inj H
  go_enter Try.func28, Try.ntmps28
  go_wp2_with (first | ((with_reducible refine gate_dst (N := 3) rfl ?_); refine bx 3 27 #[.int .i64 a1_0, .bool a1_1, .int .i64 a1_2] ?_; intro gb123 hg w12 hbox hb; have BK123 := hbox; have GW123 := gs hg; have GE123 := gs hg; replace HB := bs hb; clear hb hbox hg) | ((with_reducible refine gate_callee (f := 47) rfl ?_); refine gl (some 6) Try.func47 #[.int .i64 a0] ?_; (with_reducible refine (impl_isSignalRow.calls a0 false _ A3.out).mono ?_); rintro e w' ⟨rfl, ⟨nd, rfl⟩⟩; refine ⟨_, rfl, ?_⟩))
  go_ret
  exact ⟨rs, bw⟩

/-! ### impl_Signal_comes: function 30 -/
def impl_Signal_comes.f (a0_0 : Int) (a0_1 : Bool) (a0_2 : Int) (a1 : Int) (a2 : Int) : Option (Bool) := if a2 = 0 then (some true) else (if a1 > 1 then (if a0_2 = 0 then (none) else (some ((Int.tmod a2 a0_2) == 0))) else (some false))
set_option maxHeartbeats 8000000 in
set_option maxRecDepth 100000 in
theorem impl_Signal_comes.calls (a0_0 : Int) (a0_1 : Bool) (a0_2 : Int) (a1 : Int) (a2 : Int) (r : Bool) (w : World) (h : impl_Signal_comes.f a0_0 a0_1 a0_2 a1 a2 = some r) :
  Calls Try.prog 30 #[.agg #[.int .i64 a0_0, .bool a0_1, .int .i64 a0_2], .int .i64 a1, .int .i64 a2] w fun e w' => e = .returned (.bool r) ∧ Below w.heap.size w w' := by
 have hu27 := Try.underlying27
 have HB := Aside0.mk (Below.refl w.heap.size w)
 unfold impl_Signal_comes.f at h
 have H := h
 clear h
 by_cases c4 : a2 = 0
 ·rw [if_pos c4] at H
  have c4b0 : (a2 == 0) = true := beq_iff_eq.mpr c4
  have c4b1 : (a2 != 0) = false := bne_eq_false_iff_eq.mpr c4
  clear c4
  obtain rfl := Option.some.inj H
  go_enter Try.func30, Try.ntmps30
  go_wp2_with (first | ((with_reducible refine gate_dst (N := 3) rfl ?_); refine bx 3 27 #[.int .i64 a0_0, .bool a0_1, .int .i64 a0_2] ?_; intro gb127 hg w5 hbox hb; have BK127 := hbox; have GW127 := gs hg; have GE127 := gs hg; replace HB := bs hb; clear hb hbox hg))
  go_ret
  exact ⟨rs, bw⟩
 ·rw [if_neg c4] at H
  have c4b0 : (a2 == 0) = false := beq_eq_false_iff_ne.mpr c4
  have c4b1 : (a2 != 0) = true := bne_iff_ne.mpr c4
  by_cases c6 : a1 > 1
  ·rw [if_pos c6] at H
   have c6b0 : decide (1 < a1) = true := decide_eq_true c6
   clear c6
   by_cases c7 : a0_2 = 0
   ·rw [if_pos c7] at H
    exact absurd H (by simp)
   ·rw [if_neg c7] at H
    have c7b0 : (a0_2 == 0) = false := beq_eq_false_iff_ne.mpr c7
    have c7b1 : (a0_2 != 0) = true := bne_iff_ne.mpr c7
    obtain rfl := Option.some.inj H
    go_enter Try.func30, Try.ntmps30
    go_wp2_with (first | ((with_reducible refine gate_dst (N := 3) rfl ?_); refine bx 3 27 #[.int .i64 a0_0, .bool a0_1, .int .i64 a0_2] ?_; intro gb127 hg w8 hbox hb; have BK127 := hbox; have GW127 := gs hg; have GE127 := gs hg; replace HB := bs hb; clear hb hbox hg; have hcz9_0 := bc BK127 0 (.int .i64 a0_0); have hcz9_1 := bc BK127 1 (.bool a0_1); have hcz9_2 := bc BK127 2 (.int .i64 a0_2); have hfz9_0 := blk_frozen BK127.out 0; have hfz9_1 := blk_frozen BK127.out 1; have hfz9_2 := blk_frozen BK127.out 2))
    go_ret
    exact ⟨rs, bw⟩
  ·rw [if_neg c6] at H
   have c6b0 : decide (1 < a1) = false := decide_eq_false c6
   clear c6
   obtain rfl := Option.some.inj H
   go_enter Try.func30, Try.ntmps30
   go_wp2_with (first | ((with_reducible refine gate_dst (N := 3) rfl ?_); refine bx 3 27 #[.int .i64 a0_0, .bool a0_1, .int .i64 a0_2] ?_; intro gb127 hg w10 hbox hb; have BK127 := hbox; have GW127 := gs hg; have GE127 := gs hg; replace HB := bs hb; clear hb hbox hg))
   go_ret
   exact ⟨rs, bw⟩

/-! ### impl_around: function 48 -/
def impl_around.f (a0 : Int) : Option (Int) := some (mx (wrap64 (2 * (wrap64 (a0 - 1)))) 1)
set_option maxHeartbeats 8000000 in
set_option maxRecDepth 100000 in
theorem impl_around.calls (a0 : Int) (r : Int) (w : World) (h : impl_around.f a0 = some r) :
  Calls Try.prog 48 #[.int .i64 a0] w fun e w' => e = .returned (.int .i64 r) ∧ Below w.heap.size w w' := by
 have HB := Aside0.mk (Below.refl w.heap.size w)
 unfold impl_around.f at h
 have H := h
 clear h
 obtain ⟨ji2, hji2⟩ : ∃ j_ : Int, (mx (wrap64 (2 * (wrap64 (a0 - 1)))) 1) = j_ := ⟨_, rfl⟩
 replace H : (some ji2) = some r := by first | (rw [hji2] at H; exact H) | (simp only [hji2] at H ⊢; exact H)
 (try (have hji2l : 1 ≤ ji2 := by (rw [← hji2]; unfold mx; (repeat' split) <;> omega)))
 (try (have hji2m : 0 ≤ ji2 := by omega))
 have hji2_ : (if (wrap64 (2 * (wrap64 (a0 - 1)))) < 1 then 1 else (wrap64 (2 * (wrap64 (a0 - 1))))) = ji2 := hji2
 obtain rfl := Option.some.inj H
 go_enter Try.func48, Try.ntmps48
 go_wp2
 go_ret
 exact ⟨by first | rfl | (simp [errW_none, errW_some] <;> rfl) | (simp only [← hji2]; first | rfl | (simp [errW_none, errW_some] <;> rfl)) | (simp [*, errW_none, errW_some] <;> rfl), bw⟩

/-! ### impl_Signal_place: function 31 -/
def impl_Signal_place.f (a0_0 : Int) (a0_1 : Bool) (a0_2 : Int) (a1 : Int) (a2 : Int) : Option (Int) := if a1 = 1 then (some 0) else ((impl_around.f a1).bind fun t129 => (if a0_1 = true then (if a0_2 = 0 then (none) else (if t129 = 0 then (none) else (some (mn (Int.tmod (wrap64 ((wrap64 (t129 - a0_0)) + (wrap64 (Int.tdiv a2 a0_2)))) t129) (wrap64 (t129 - (Int.tmod (wrap64 ((wrap64 (t129 - a0_0)) + (wrap64 (Int.tdiv a2 a0_2)))) t129))))))) else (if a0_2 = 0 then (none) else (if t129 = 0 then (none) else (some (mn (Int.tmod (wrap64 (a0_0 + (wrap64 (Int.tdiv a2 a0_2)))) t129) (wrap64 (t129 - (Int.tmod (wrap64 (a0_0 + (wrap64 (Int.tdiv a2 a0_2)))) t129)))))))))
set_option maxHeartbeats 8000000 in
set_option maxRecDepth 100000 in
theorem impl_Signal_place.calls (a0_0 : Int) (a0_1 : Bool) (a0_2 : Int) (a1 : Int) (a2 : Int) (r : Int) (w : World) (h : impl_Signal_place.f a0_0 a0_1 a0_2 a1 a2 = some r) :
  Calls Try.prog 31 #[.agg #[.int .i64 a0_0, .bool a0_1, .int .i64 a0_2], .int .i64 a1, .int .i64 a2] w fun e w' => e = .returned (.int .i64 r) ∧ Below w.heap.size w w' := by
 have hu27 := Try.underlying27
 have HB := Aside0.mk (Below.refl w.heap.size w)
 unfold impl_Signal_place.f at h
 have H := h
 clear h
 by_cases c4 : a1 = 1
 ·rw [if_pos c4] at H
  have c4b0 : (a1 == 1) = true := beq_iff_eq.mpr c4
  have c4b1 : (a1 != 1) = false := bne_eq_false_iff_eq.mpr c4
  clear c4
  obtain rfl := Option.some.inj H
  go_enter Try.func31, Try.ntmps31
  go_wp2_with (first | ((with_reducible refine gate_dst (N := 3) rfl ?_); refine bx 3 27 #[.int .i64 a0_0, .bool a0_1, .int .i64 a0_2] ?_; intro gb128 hg w5 hbox hb; have BK128 := hbox; have GW128 := gs hg; have GE128 := gs hg; replace HB := bs hb; clear hb hbox hg))
  go_ret
  exact ⟨rs, bw⟩
 ·rw [if_neg c4] at H
  have c4b0 : (a1 == 1) = false := beq_eq_false_iff_ne.mpr c4
  have c4b1 : (a1 != 1) = true := bne_iff_ne.mpr c4
  replace H := Option.bind_eq_some_iff.mp H
  obtain ⟨t129, A60, H⟩ := H
  (try dsimp only at H)
  have A6 := Aside0.mk A60
  clear A60
  by_cases c7 : a0_1 = true
  ·subst c7
   rw [if_pos rfl] at H
   by_cases c8 : a0_2 = 0
   ·rw [if_pos c8] at H
    exact absurd H (by simp)
   ·rw [if_neg c8] at H
    have c8b0 : (a0_2 == 0) = false := beq_eq_false_iff_ne.mpr c8
    have c8b1 : (a0_2 != 0) = true := bne_iff_ne.mpr c8
    by_cases c9 : t129 = 0
    ·rw [if_pos c9] at H
     exact absurd H (by simp)
    ·rw [if_neg c9] at H
     have c9b0 : (t129 == 0) = false := beq_eq_false_iff_ne.mpr c9
     have c9b1 : (t129 != 0) = true := bne_iff_ne.mpr c9
     obtain ⟨ji10, hji10⟩ : ∃ j_ : Int, (mn (Int.tmod (wrap64 ((wrap64 (t129 - a0_0)) + (wrap64 (Int.tdiv a2 a0_2)))) t129) (wrap64 (t129 - (Int.tmod (wrap64 ((wrap64 (t129 - a0_0)) + (wrap64 (Int.tdiv a2 a0_2)))) t129)))) = j_ := ⟨_, rfl⟩
     replace H : (some ji10) = some r := by first | (rw [hji10] at H; exact H) | (simp only [hji10] at H ⊢; exact H)
     (try rw [hji10] at A6)
     have hji10_ : (if (wrap64 (t129 - (Int.tmod (wrap64 ((wrap64 (t129 - a0_0)) + (wrap64 (Int.tdiv a2 a0_2)))) t129))) < (Int.tmod (wrap64 ((wrap64 (t129 - a0_0)) + (wrap64 (Int.tdiv a2 a0_2)))) t129) then (wrap64 (t129 - (Int.tmod (wrap64 ((wrap64 (t129 - a0_0)) + (wrap64 (Int.tdiv a2 a0_2)))) t129))) else (Int.tmod (wrap64 ((wrap64 (t129 - a0_0)) + (wrap64 (Int.tdiv a2 a0_2)))) t129)) = ji10 := hji10
     obtain rfl := Option.some.inj H
     go_enter Try.func31, Try.ntmps31
     go_wp2_with (first | ((with_reducible refine gate_dst (N := 3) rfl ?_); refine bx 3 27 #[.int .i64 a0_0, .bool true, .int .i64 a0_2] ?_; intro gb128 hg w11 hbox hb; have BK128 := hbox; have GW128 := gs hg; have GE128 := gs hg; replace HB := bs hb; clear hb hbox hg) | ((with_reducible refine gate_callee (f := 48) rfl ?_); refine gl (some 12) Try.func48 #[.int .i64 a1] ?_; (with_reducible refine (impl_around.calls a1 t129 _ A6.out).mono ?_); rintro e w12 ⟨rfl, hb⟩; refine ⟨_, rfl, ?_⟩; replace BK128 := nk BK128 hb; replace HB := bs hb; (try clear hb); have hcz13_0 := bc BK128 0 (.int .i64 a0_0); have hcz13_1 := bc BK128 1 (.bool true); have hcz13_2 := bc BK128 2 (.int .i64 a0_2); have hfz13_0 := blk_frozen BK128.out 0; have hfz13_1 := blk_frozen BK128.out 1; have hfz13_2 := blk_frozen BK128.out 2))
     go_ret
     exact ⟨by first | rfl | (simp [errW_none, errW_some] <;> rfl) | (simp only [← hji10]; first | rfl | (simp [errW_none, errW_some] <;> rfl)) | (simp [*, errW_none, errW_some] <;> rfl), bw⟩
  ·replace c7 := Bool.eq_false_iff.mpr c7
   subst c7
   rw [if_neg (show ¬ (false = true) by decide)] at H
   by_cases c14 : a0_2 = 0
   ·rw [if_pos c14] at H
    exact absurd H (by simp)
   ·rw [if_neg c14] at H
    have c14b0 : (a0_2 == 0) = false := beq_eq_false_iff_ne.mpr c14
    have c14b1 : (a0_2 != 0) = true := bne_iff_ne.mpr c14
    by_cases c15 : t129 = 0
    ·rw [if_pos c15] at H
     exact absurd H (by simp)
    ·rw [if_neg c15] at H
     have c15b0 : (t129 == 0) = false := beq_eq_false_iff_ne.mpr c15
     have c15b1 : (t129 != 0) = true := bne_iff_ne.mpr c15
     obtain ⟨ji16, hji16⟩ : ∃ j_ : Int, (mn (Int.tmod (wrap64 (a0_0 + (wrap64 (Int.tdiv a2 a0_2)))) t129) (wrap64 (t129 - (Int.tmod (wrap64 (a0_0 + (wrap64 (Int.tdiv a2 a0_2)))) t129)))) = j_ := ⟨_, rfl⟩
     replace H : (some ji16) = some r := by first | (rw [hji16] at H; exact H) | (simp only [hji16] at H ⊢; exact H)
     (try rw [hji16] at A6)
     have hji16_ : (if (wrap64 (t129 - (Int.tmod (wrap64 (a0_0 + (wrap64 (Int.tdiv a2 a0_2)))) t129))) < (Int.tmod (wrap64 (a0_0 + (wrap64 (Int.tdiv a2 a0_2)))) t129) then (wrap64 (t129 - (Int.tmod (wrap64 (a0_0 + (wrap64 (Int.tdiv a2 a0_2)))) t129))) else (Int.tmod (wrap64 (a0_0 + (wrap64 (Int.tdiv a2 a0_2)))) t129)) = ji16 := hji16
     obtain rfl := Option.some.inj H
     go_enter Try.func31, Try.ntmps31
     go_wp2_with (first | ((with_reducible refine gate_dst (N := 3) rfl ?_); refine bx 3 27 #[.int .i64 a0_0, .bool false, .int .i64 a0_2] ?_; intro gb128 hg w17 hbox hb; have BK128 := hbox; have GW128 := gs hg; have GE128 := gs hg; replace HB := bs hb; clear hb hbox hg) | ((with_reducible refine gate_callee (f := 48) rfl ?_); refine gl (some 12) Try.func48 #[.int .i64 a1] ?_; (with_reducible refine (impl_around.calls a1 t129 _ A6.out).mono ?_); rintro e w18 ⟨rfl, hb⟩; refine ⟨_, rfl, ?_⟩; replace BK128 := nk BK128 hb; replace HB := bs hb; (try clear hb); have hcz19_0 := bc BK128 0 (.int .i64 a0_0); have hcz19_1 := bc BK128 1 (.bool false); have hcz19_2 := bc BK128 2 (.int .i64 a0_2); have hfz19_0 := blk_frozen BK128.out 0; have hfz19_1 := blk_frozen BK128.out 1; have hfz19_2 := blk_frozen BK128.out 2))
     go_ret
     exact ⟨by first | rfl | (simp [errW_none, errW_some] <;> rfl) | (simp only [← hji16]; first | rfl | (simp [errW_none, errW_some] <;> rfl)) | (simp [*, errW_none, errW_some] <;> rfl), bw⟩

end Go.Proofs.Ytafcfhlgenljgaa.PFnExactTimesAt
