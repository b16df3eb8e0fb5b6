-- Laid by xprint, a program of this session that runs over the kit's print.
import Derived.Test.YtphfbldnoinanaaPFnExactDropCluex0
import Derived.Test.YtphfbldnoinanaaPFnExactDropCluex3
namespace Go.Proofs.Ytphfbldnoinanaa.PFnExactDropClue
open Go.RowKit Go.Proofs.YtphfbldnoinanaaW.PrintWords Go.Proofs.YtphfbldnoinanaaW.PrintLast Go.Proofs.YtphfbldnoinanaaW.PrintMore Go.Proofs.Ytphfbldnoinanaa.Sq
attribute [local go_sem] max2_int min2_int max_two min_two max_three min_three max_four min_four   -- for this text's walks alone
set_option linter.unusedVariables false
set_option linter.unusedSimpArgs false

/-! ### impl_isClue: function 35 -/
def impl_isClue.f (a0 : Int) (a1_0 : Int) (a1_1 : Int) (a1_2 : Int) (a1_3 : Int) : Option (Bool) := (impl_isHidden.f a0).bind fun t183 => (if t183 = true then (if a1_0 = 0 then ((impl_in.f a1_1 0 (wrap64 (a0 - 1))).bind fun t184 => (if t184 = true then ((impl_in.f a1_2 0 20).bind fun t185 => (if t185 = true then ((impl_in.f a1_3 0 1).bind fun t186 => (some t186)) else (some false))) else (some false))) else (if a1_0 = 1 then (if a1_1 = 0 then (if a1_2 = 0 then ((impl_in.f a1_3 0 a0).bind fun t187 => (some t187)) else (some false)) else (some false)) else (if a1_0 = 2 then (if a1_1 = 0 then (if a1_2 = 0 then ((impl_in.f a1_3 0 20).bind fun t188 => (some t188)) else (some false)) else (some false)) else (if a1_0 = 3 then (if a1_1 = 0 then (if a1_2 = 0 then ((impl_in.f a1_3 0 8).bind fun t189 => (some t189)) else (some false)) else (some false)) else (if a1_0 = 4 then ((impl_in.f a1_1 0 (wrap64 (a0 - 1))).bind fun t190 => (if t190 = true then (if a1_2 = 0 then ((impl_in.f a1_3 0 20).bind fun t191 => (some t191)) else (some false)) else (some false))) else (some false)))))) else (some false))
set_option maxHeartbeats 8000000 in
set_option maxRecDepth 100000 in
theorem impl_isClue.calls (a0 : Int) (a1_0 : Int) (a1_1 : Int) (a1_2 : Int) (a1_3 : Int) (r : Bool) (w : World) (h : impl_isClue.f a0 a1_0 a1_1 a1_2 a1_3 = some r) :
  Calls Try.prog 35 #[.int .i64 a0, .agg #[.int .i64 a1_0, .int .i64 a1_1, .int .i64 a1_2, .int .i64 a1_3]] w fun e w' => e = .returned (.bool r) ∧ Below w.heap.size w w' := by
 have hu37 := Try.underlying37
 have HB := Aside0.mk (Below.refl w.heap.size w)
 unfold impl_isClue.f at h
 have H := h
 clear h
 replace H := Option.bind_eq_some_iff.mp H
 obtain ⟨t183, A30, H⟩ := H
 (try dsimp only at H)
 have A3 := Aside0.mk A30
 clear A30
 by_cases c4 : t183 = true
 ·subst c4
  rw [if_pos rfl] at H
  by_cases c5 : a1_0 = 0
  ·rw [if_pos c5] at H
   have c5b0 : (a1_0 == 0) = true := beq_iff_eq.mpr c5
   have c5b1 : (a1_0 != 0) = false := bne_eq_false_iff_eq.mpr c5
   clear c5
   replace H := Option.bind_eq_some_iff.mp H
   obtain ⟨t184, A60, H⟩ := H
   (try dsimp only at H)
   have A6 := Aside0.mk A60
   clear A60
   by_cases c7 : t184 = true
   ·subst c7
    rw [if_pos rfl] at H
    replace H := Option.bind_eq_some_iff.mp H
    obtain ⟨t185, A80, H⟩ := H
    (try dsimp only at H)
    have A8 := Aside0.mk A80
    clear A80
    by_cases c9 : t185 = true
    ·subst c9
     rw [if_pos rfl] at H
     replace H := Option.bind_eq_some_iff.mp H
     obtain ⟨t186, A100, H⟩ := H
     (try dsimp only at H)
     have A10 := Aside0.mk A100
     clear A100
     obtain rfl := Option.some.inj H
     go_enter Try.func35, Try.ntmps35
     go_wp2_with (first | ((with_reducible refine gate_dst (N := 3) rfl ?_); refine bx 3 37 #[.int .i64 a1_0, .int .i64 a1_1, .int .i64 a1_2, .int .i64 a1_3] ?_; intro gb182 hg w11 hbox hb; have BK182 := hbox; have GW182 := gs hg; have GE182 := gs hg; replace HB := bs hb; clear hb hbox hg) | ((with_reducible refine gate_callee (f := 32) rfl ?_); refine gl (some 6) Try.func32 #[.int .i64 a0] ?_; (with_reducible refine (impl_isHidden.calls a0 true _ A3.out).mono ?_); rintro e w' ⟨rfl, ⟨nd, rfl⟩⟩; refine ⟨_, rfl, ?_⟩; have hcz12_0 := bc BK182 0 (.int .i64 a1_0); have hcz12_1 := bc BK182 1 (.int .i64 a1_1); have hcz12_2 := bc BK182 2 (.int .i64 a1_2); have hcz12_3 := bc BK182 3 (.int .i64 a1_3); have hfz12_0 := blk_frozen BK182.out 0; have hfz12_1 := blk_frozen BK182.out 1; have hfz12_2 := blk_frozen BK182.out 2; have hfz12_3 := blk_frozen BK182.out 3) | ((with_reducible refine gate_callee (f := 29) rfl ?_); refine gl (some 16) Try.func29 #[.int .i64 a1_1, .int .i64 0, .int .i64 (wrap64 (a0 - 1))] ?_; (with_reducible refine (impl_in.calls a1_1 0 (wrap64 (a0 - 1)) true _ A6.out).mono ?_); rintro e w' ⟨rfl, ⟨nd, rfl⟩⟩; refine ⟨_, rfl, ?_⟩) | (go_at_call 29; (with_reducible refine (impl_in.calls a1_2 0 20 true _ A8.out).mono ?_); rintro e w' ⟨rfl, ⟨nd, rfl⟩⟩) | (go_at_call 29; (with_reducible refine (impl_in.calls a1_3 0 1 t186 _ A10.out).mono ?_); rintro e w' ⟨rfl, ⟨nd, rfl⟩⟩))
     go_ret
     exact ⟨rs, bw⟩
    ·replace c9 := Bool.eq_false_iff.mpr c9
     subst c9
     rw [if_neg (show ¬ (false = true) by decide)] at H
     obtain rfl := Option.some.inj H
     go_enter Try.func35, Try.ntmps35
     go_wp2_with (first | ((with_reducible refine gate_dst (N := 3) rfl ?_); refine bx 3 37 #[.int .i64 a1_0, .int .i64 a1_1, .int .i64 a1_2, .int .i64 a1_3] ?_; intro gb182 hg w13 hbox hb; have BK182 := hbox; have GW182 := gs hg; have GE182 := gs hg; replace HB := bs hb; clear hb hbox hg) | ((with_reducible refine gate_callee (f := 32) rfl ?_); refine gl (some 6) Try.func32 #[.int .i64 a0] ?_; (with_reducible refine (impl_isHidden.calls a0 true _ A3.out).mono ?_); rintro e w' ⟨rfl, ⟨nd, rfl⟩⟩; refine ⟨_, rfl, ?_⟩; have hcz14_0 := bc BK182 0 (.int .i64 a1_0); have hcz14_1 := bc BK182 1 (.int .i64 a1_1); have hcz14_2 := bc BK182 2 (.int .i64 a1_2); have hcz14_3 := bc BK182 3 (.int .i64 a1_3); have hfz14_0 := blk_frozen BK182.out 0; have hfz14_1 := blk_frozen BK182.out 1; have hfz14_2 := blk_frozen BK182.out 2; have hfz14_3 := blk_frozen BK182.out 3) | ((with_reducible refine gate_callee (f := 29) rfl ?_); refine gl (some 16) Try.func29 #[.int .i64 a1_1, .int .i64 0, .int .i64 (wrap64 (a0 - 1))] ?_; (with_reducible refine (impl_in.calls a1_1 0 (wrap64 (a0 - 1)) true _ A6.out).mono ?_); rintro e w' ⟨rfl, ⟨nd, rfl⟩⟩; refine ⟨_, rfl, ?_⟩) | (go_at_call 29; (with_reducible refine (impl_in.calls a1_2 0 20 false _ A8.out).mono ?_); rintro e w' ⟨rfl, ⟨nd, rfl⟩⟩))
     go_ret
     exact ⟨rs, bw⟩
   ·replace c7 := Bool.eq_false_iff.mpr c7
    subst c7
    rw [if_neg (show ¬ (false = true) by decide)] at H
    obtain rfl := Option.some.inj H
    go_enter Try.func35, Try.ntmps35
    go_wp2_with (first | ((with_reducible refine gate_dst (N := 3) rfl ?_); refine bx 3 37 #[.int .i64 a1_0, .int .i64 a1_1, .int .i64 a1_2, .int .i64 a1_3] ?_; intro gb182 hg w15 hbox hb; have BK182 := hbox; have GW182 := gs hg; have GE182 := gs hg; replace HB := bs hb; clear hb hbox hg) | ((with_reducible refine gate_callee (f := 32) rfl ?_); refine gl (some 6) Try.func32 #[.int .i64 a0] ?_; (with_reducible refine (impl_isHidden.calls a0 true _ A3.out).mono ?_); rintro e w' ⟨rfl, ⟨nd, rfl⟩⟩; refine ⟨_, rfl, ?_⟩; have hcz16_0 := bc BK182 0 (.int .i64 a1_0); have hcz16_1 := bc BK182 1 (.int .i64 a1_1); have hcz16_2 := bc BK182 2 (.int .i64 a1_2); have hcz16_3 := bc BK182 3 (.int .i64 a1_3); have hfz16_0 := blk_frozen BK182.out 0; have hfz16_1 := blk_frozen BK182.out 1; have hfz16_2 := blk_frozen BK182.out 2; have hfz16_3 := blk_frozen BK182.out 3) | ((with_reducible refine gate_callee (f := 29) rfl ?_); refine gl (some 16) Try.func29 #[.int .i64 a1_1, .int .i64 0, .int .i64 (wrap64 (a0 - 1))] ?_; (with_reducible refine (impl_in.calls a1_1 0 (wrap64 (a0 - 1)) false _ A6.out).mono ?_); rintro e w' ⟨rfl, ⟨nd, rfl⟩⟩; refine ⟨_, rfl, ?_⟩))
    go_ret
    exact ⟨rs, bw⟩
  ·rw [if_neg c5] at H
   have c5b0 : (a1_0 == 0) = false := beq_eq_false_iff_ne.mpr c5
   have c5b1 : (a1_0 != 0) = true := bne_iff_ne.mpr c5
   by_cases c17 : a1_0 = 1
   ·rw [if_pos c17] at H
    have c17b0 : (a1_0 == 1) = true := beq_iff_eq.mpr c17
    have c17b1 : (a1_0 != 1) = false := bne_eq_false_iff_eq.mpr c17
    clear c17
    by_cases c18 : a1_1 = 0
    ·rw [if_pos c18] at H
     have c18b0 : (a1_1 == 0) = true := beq_iff_eq.mpr c18
     have c18b1 : (a1_1 != 0) = false := bne_eq_false_iff_eq.mpr c18
     clear c18
     by_cases c19 : a1_2 = 0
     ·rw [if_pos c19] at H
      have c19b0 : (a1_2 == 0) = true := beq_iff_eq.mpr c19
      have c19b1 : (a1_2 != 0) = false := bne_eq_false_iff_eq.mpr c19
      clear c19
      replace H := Option.bind_eq_some_iff.mp H
      obtain ⟨t187, A200, H⟩ := H
      (try dsimp only at H)
      have A20 := Aside0.mk A200
      clear A200
      obtain rfl := Option.some.inj H
      go_enter Try.func35, Try.ntmps35
      go_wp2_with (first | ((with_reducible refine gate_dst (N := 3) rfl ?_); refine bx 3 37 #[.int .i64 a1_0, .int .i64 a1_1, .int .i64 a1_2, .int .i64 a1_3] ?_; intro gb182 hg w21 hbox hb; have BK182 := hbox; have GW182 := gs hg; have GE182 := gs hg; replace HB := bs hb; clear hb hbox hg) | ((with_reducible refine gate_callee (f := 32) rfl ?_); refine gl (some 6) Try.func32 #[.int .i64 a0] ?_; (with_reducible refine (impl_isHidden.calls a0 true _ A3.out).mono ?_); rintro e w' ⟨rfl, ⟨nd, rfl⟩⟩; refine ⟨_, rfl, ?_⟩; have hcz22_0 := bc BK182 0 (.int .i64 a1_0); have hcz22_1 := bc BK182 1 (.int .i64 a1_1); have hcz22_2 := bc BK182 2 (.int .i64 a1_2); have hcz22_3 := bc BK182 3 (.int .i64 a1_3); have hfz22_0 := blk_frozen BK182.out 0; have hfz22_1 := blk_frozen BK182.out 1; have hfz22_2 := blk_frozen BK182.out 2; have hfz22_3 := blk_frozen BK182.out 3) | (go_at_call 29; (with_reducible refine (impl_in.calls a1_3 0 a0 t187 _ A20.out).mono ?_); rintro e w' ⟨rfl, ⟨nd, rfl⟩⟩))
      go_ret
      exact ⟨rs, bw⟩
     ·rw [if_neg c19] at H
      have c19b0 : (a1_2 == 0) = false := beq_eq_false_iff_ne.mpr c19
      have c19b1 : (a1_2 != 0) = true := bne_iff_ne.mpr c19
      obtain rfl := Option.some.inj H
      go_enter Try.func35, Try.ntmps35
      go_wp2_with (first | ((with_reducible refine gate_dst (N := 3) rfl ?_); refine bx 3 37 #[.int .i64 a1_0, .int .i64 a1_1, .int .i64 a1_2, .int .i64 a1_3] ?_; intro gb182 hg w23 hbox hb; have BK182 := hbox; have GW182 := gs hg; have GE182 := gs hg; replace HB := bs hb; clear hb hbox hg) | ((with_reducible refine gate_callee (f := 32) rfl ?_); refine gl (some 6) Try.func32 #[.int .i64 a0] ?_; (with_reducible refine (impl_isHidden.calls a0 true _ A3.out).mono ?_); rintro e w' ⟨rfl, ⟨nd, rfl⟩⟩; refine ⟨_, rfl, ?_⟩; have hcz24_0 := bc BK182 0 (.int .i64 a1_0); have hcz24_1 := bc BK182 1 (.int .i64 a1_1); have hcz24_2 := bc BK182 2 (.int .i64 a1_2); have hcz24_3 := bc BK182 3 (.int .i64 a1_3); have hfz24_0 := blk_frozen BK182.out 0; have hfz24_1 := blk_frozen BK182.out 1; have hfz24_2 := blk_frozen BK182.out 2; have hfz24_3 := blk_frozen BK182.out 3))
      go_ret
      exact ⟨rs, bw⟩
    ·rw [if_neg c18] at H
     have c18b0 : (a1_1 == 0) = false := beq_eq_false_iff_ne.mpr c18
     have c18b1 : (a1_1 != 0) = true := bne_iff_ne.mpr c18
     obtain rfl := Option.some.inj H
     go_enter Try.func35, Try.ntmps35
     go_wp2_with (first | ((with_reducible refine gate_dst (N := 3) rfl ?_); refine bx 3 37 #[.int .i64 a1_0, .int .i64 a1_1, .int .i64 a1_2, .int .i64 a1_3] ?_; intro gb182 hg w25 hbox hb; have BK182 := hbox; have GW182 := gs hg; have GE182 := gs hg; replace HB := bs hb; clear hb hbox hg) | ((with_reducible refine gate_callee (f := 32) rfl ?_); refine gl (some 6) Try.func32 #[.int .i64 a0] ?_; (with_reducible refine (impl_isHidden.calls a0 true _ A3.out).mono ?_); rintro e w' ⟨rfl, ⟨nd, rfl⟩⟩; refine ⟨_, rfl, ?_⟩; have hcz26_0 := bc BK182 0 (.int .i64 a1_0); have hcz26_1 := bc BK182 1 (.int .i64 a1_1); have hcz26_2 := bc BK182 2 (.int .i64 a1_2); have hcz26_3 := bc BK182 3 (.int .i64 a1_3); have hfz26_0 := blk_frozen BK182.out 0; have hfz26_1 := blk_frozen BK182.out 1; have hfz26_2 := blk_frozen BK182.out 2; have hfz26_3 := blk_frozen BK182.out 3))
     go_ret
     exact ⟨rs, bw⟩
   ·rw [if_neg c17] at H
    have c17b0 : (a1_0 == 1) = false := beq_eq_false_iff_ne.mpr c17
    have c17b1 : (a1_0 != 1) = true := bne_iff_ne.mpr c17
    by_cases c27 : a1_0 = 2
    ·rw [if_pos c27] at H
     have c27b0 : (a1_0 == 2) = true := beq_iff_eq.mpr c27
     have c27b1 : (a1_0 != 2) = false := bne_eq_false_iff_eq.mpr c27
     clear c27
     by_cases c28 : a1_1 = 0
     ·rw [if_pos c28] at H
      have c28b0 : (a1_1 == 0) = true := beq_iff_eq.mpr c28
      have c28b1 : (a1_1 != 0) = false := bne_eq_false_iff_eq.mpr c28
      clear c28
      by_cases c29 : a1_2 = 0
      ·rw [if_pos c29] at H
       have c29b0 : (a1_2 == 0) = true := beq_iff_eq.mpr c29
       have c29b1 : (a1_2 != 0) = false := bne_eq_false_iff_eq.mpr c29
       clear c29
       replace H := Option.bind_eq_some_iff.mp H
       obtain ⟨t188, A300, H⟩ := H
       (try dsimp only at H)
       have A30 := Aside0.mk A300
       clear A300
       obtain rfl := Option.some.inj H
       go_enter Try.func35, Try.ntmps35
       go_wp2_with (first | ((with_reducible refine gate_dst (N := 3) rfl ?_); refine bx 3 37 #[.int .i64 a1_0, .int .i64 a1_1, .int .i64 a1_2, .int .i64 a1_3] ?_; intro gb182 hg w31 hbox hb; have BK182 := hbox; have GW182 := gs hg; have GE182 := gs hg; replace HB := bs hb; clear hb hbox hg) | ((with_reducible refine gate_callee (f := 32) rfl ?_); refine gl (some 6) Try.func32 #[.int .i64 a0] ?_; (with_reducible refine (impl_isHidden.calls a0 true _ A3.out).mono ?_); rintro e w' ⟨rfl, ⟨nd, rfl⟩⟩; refine ⟨_, rfl, ?_⟩; have hcz32_0 := bc BK182 0 (.int .i64 a1_0); have hcz32_1 := bc BK182 1 (.int .i64 a1_1); have hcz32_2 := bc BK182 2 (.int .i64 a1_2); have hcz32_3 := bc BK182 3 (.int .i64 a1_3); have hfz32_0 := blk_frozen BK182.out 0; have hfz32_1 := blk_frozen BK182.out 1; have hfz32_2 := blk_frozen BK182.out 2; have hfz32_3 := blk_frozen BK182.out 3) | (go_at_call 29; (with_reducible refine (impl_in.calls a1_3 0 20 t188 _ A30.out).mono ?_); rintro e w' ⟨rfl, ⟨nd, rfl⟩⟩))
       go_ret
       exact ⟨rs, bw⟩
      ·rw [if_neg c29] at H
       have c29b0 : (a1_2 == 0) = false := beq_eq_false_iff_ne.mpr c29
       have c29b1 : (a1_2 != 0) = true := bne_iff_ne.mpr c29
       obtain rfl := Option.some.inj H
       go_enter Try.func35, Try.ntmps35
       go_wp2_with (first | ((with_reducible refine gate_dst (N := 3) rfl ?_); refine bx 3 37 #[.int .i64 a1_0, .int .i64 a1_1, .int .i64 a1_2, .int .i64 a1_3] ?_; intro gb182 hg w33 hbox hb; have BK182 := hbox; have GW182 := gs hg; have GE182 := gs hg; replace HB := bs hb; clear hb hbox hg) | ((with_reducible refine gate_callee (f := 32) rfl ?_); refine gl (some 6) Try.func32 #[.int .i64 a0] ?_; (with_reducible refine (impl_isHidden.calls a0 true _ A3.out).mono ?_); rintro e w' ⟨rfl, ⟨nd, rfl⟩⟩; refine ⟨_, rfl, ?_⟩; have hcz34_0 := bc BK182 0 (.int .i64 a1_0); have hcz34_1 := bc BK182 1 (.int .i64 a1_1); have hcz34_2 := bc BK182 2 (.int .i64 a1_2); have hcz34_3 := bc BK182 3 (.int .i64 a1_3); have hfz34_0 := blk_frozen BK182.out 0; have hfz34_1 := blk_frozen BK182.out 1; have hfz34_2 := blk_frozen BK182.out 2; have hfz34_3 := blk_frozen BK182.out 3))
       go_ret
       exact ⟨rs, bw⟩
     ·rw [if_neg c28] at H
      have c28b0 : (a1_1 == 0) = false := beq_eq_false_iff_ne.mpr c28
      have c28b1 : (a1_1 != 0) = true := bne_iff_ne.mpr c28
      obtain rfl := Option.some.inj H
      go_enter Try.func35, Try.ntmps35
      go_wp2_with (first | ((with_reducible refine gate_dst (N := 3) rfl ?_); refine bx 3 37 #[.int .i64 a1_0, .int .i64 a1_1, .int .i64 a1_2, .int .i64 a1_3] ?_; intro gb182 hg w35 hbox hb; have BK182 := hbox; have GW182 := gs hg; have GE182 := gs hg; replace HB := bs hb; clear hb hbox hg) | ((with_reducible refine gate_callee (f := 32) rfl ?_); refine gl (some 6) Try.func32 #[.int .i64 a0] ?_; (with_reducible refine (impl_isHidden.calls a0 true _ A3.out).mono ?_); rintro e w' ⟨rfl, ⟨nd, rfl⟩⟩; refine ⟨_, rfl, ?_⟩; have hcz36_0 := bc BK182 0 (.int .i64 a1_0); have hcz36_1 := bc BK182 1 (.int .i64 a1_1); have hcz36_2 := bc BK182 2 (.int .i64 a1_2); have hcz36_3 := bc BK182 3 (.int .i64 a1_3); have hfz36_0 := blk_frozen BK182.out 0; have hfz36_1 := blk_frozen BK182.out 1; have hfz36_2 := blk_frozen BK182.out 2; have hfz36_3 := blk_frozen BK182.out 3))
      go_ret
      exact ⟨rs, bw⟩
    ·rw [if_neg c27] at H
     have c27b0 : (a1_0 == 2) = false := beq_eq_false_iff_ne.mpr c27
     have c27b1 : (a1_0 != 2) = true := bne_iff_ne.mpr c27
     by_cases c37 : a1_0 = 3
     ·rw [if_pos c37] at H
      have c37b0 : (a1_0 == 3) = true := beq_iff_eq.mpr c37
      have c37b1 : (a1_0 != 3) = false := bne_eq_false_iff_eq.mpr c37
      clear c37
      by_cases c38 : a1_1 = 0
      ·rw [if_pos c38] at H
       have c38b0 : (a1_1 == 0) = true := beq_iff_eq.mpr c38
       have c38b1 : (a1_1 != 0) = false := bne_eq_false_iff_eq.mpr c38
       clear c38
       by_cases c39 : a1_2 = 0
       ·rw [if_pos c39] at H
        have c39b0 : (a1_2 == 0) = true := beq_iff_eq.mpr c39
        have c39b1 : (a1_2 != 0) = false := bne_eq_false_iff_eq.mpr c39
        clear c39
        replace H := Option.bind_eq_some_iff.mp H
        obtain ⟨t189, A400, H⟩ := H
        (try dsimp only at H)
        have A40 := Aside0.mk A400
        clear A400
        obtain rfl := Option.some.inj H
        go_enter Try.func35, Try.ntmps35
        go_wp2_with (first | ((with_reducible refine gate_dst (N := 3) rfl ?_); refine bx 3 37 #[.int .i64 a1_0, .int .i64 a1_1, .int .i64 a1_2, .int .i64 a1_3] ?_; intro gb182 hg w41 hbox hb; have BK182 := hbox; have GW182 := gs hg; have GE182 := gs hg; replace HB := bs hb; clear hb hbox hg) | ((with_reducible refine gate_callee (f := 32) rfl ?_); refine gl (some 6) Try.func32 #[.int .i64 a0] ?_; (with_reducible refine (impl_isHidden.calls a0 true _ A3.out).mono ?_); rintro e w' ⟨rfl, ⟨nd, rfl⟩⟩; refine ⟨_, rfl, ?_⟩; have hcz42_0 := bc BK182 0 (.int .i64 a1_0); have hcz42_1 := bc BK182 1 (.int .i64 a1_1); have hcz42_2 := bc BK182 2 (.int .i64 a1_2); have hcz42_3 := bc BK182 3 (.int .i64 a1_3); have hfz42_0 := blk_frozen BK182.out 0; have hfz42_1 := blk_frozen BK182.out 1; have hfz42_2 := blk_frozen BK182.out 2; have hfz42_3 := blk_frozen BK182.out 3) | (go_at_call 29; (with_reducible refine (impl_in.calls a1_3 0 8 t189 _ A40.out).mono ?_); rintro e w' ⟨rfl, ⟨nd, rfl⟩⟩))
        go_ret
        exact ⟨rs, bw⟩
       ·rw [if_neg c39] at H
        have c39b0 : (a1_2 == 0) = false := beq_eq_false_iff_ne.mpr c39
        have c39b1 : (a1_2 != 0) = true := bne_iff_ne.mpr c39
        obtain rfl := Option.some.inj H
        go_enter Try.func35, Try.ntmps35
        go_wp2_with (first | ((with_reducible refine gate_dst (N := 3) rfl ?_); refine bx 3 37 #[.int .i64 a1_0, .int .i64 a1_1, .int .i64 a1_2, .int .i64 a1_3] ?_; intro gb182 hg w43 hbox hb; have BK182 := hbox; have GW182 := gs hg; have GE182 := gs hg; replace HB := bs hb; clear hb hbox hg) | ((with_reducible refine gate_callee (f := 32) rfl ?_); refine gl (some 6) Try.func32 #[.int .i64 a0] ?_; (with_reducible refine (impl_isHidden.calls a0 true _ A3.out).mono ?_); rintro e w' ⟨rfl, ⟨nd, rfl⟩⟩; refine ⟨_, rfl, ?_⟩; have hcz44_0 := bc BK182 0 (.int .i64 a1_0); have hcz44_1 := bc BK182 1 (.int .i64 a1_1); have hcz44_2 := bc BK182 2 (.int .i64 a1_2); have hcz44_3 := bc BK182 3 (.int .i64 a1_3); have hfz44_0 := blk_frozen BK182.out 0; have hfz44_1 := blk_frozen BK182.out 1; have hfz44_2 := blk_frozen BK182.out 2; have hfz44_3 := blk_frozen BK182.out 3))
        go_ret
        exact ⟨rs, bw⟩
      ·rw [if_neg c38] at H
       have c38b0 : (a1_1 == 0) = false := beq_eq_false_iff_ne.mpr c38
       have c38b1 : (a1_1 != 0) = true := bne_iff_ne.mpr c38
       obtain rfl := Option.some.inj H
       go_enter Try.func35, Try.ntmps35
       go_wp2_with (first | ((with_reducible refine gate_dst (N := 3) rfl ?_); refine bx 3 37 #[.int .i64 a1_0, .int .i64 a1_1, .int .i64 a1_2, .int .i64 a1_3] ?_; intro gb182 hg w45 hbox hb; have BK182 := hbox; have GW182 := gs hg; have GE182 := gs hg; replace HB := bs hb; clear hb hbox hg) | ((with_reducible refine gate_callee (f := 32) rfl ?_); refine gl (some 6) Try.func32 #[.int .i64 a0] ?_; (with_reducible refine (impl_isHidden.calls a0 true _ A3.out).mono ?_); rintro e w' ⟨rfl, ⟨nd, rfl⟩⟩; refine ⟨_, rfl, ?_⟩; have hcz46_0 := bc BK182 0 (.int .i64 a1_0); have hcz46_1 := bc BK182 1 (.int .i64 a1_1); have hcz46_2 := bc BK182 2 (.int .i64 a1_2); have hcz46_3 := bc BK182 3 (.int .i64 a1_3); have hfz46_0 := blk_frozen BK182.out 0; have hfz46_1 := blk_frozen BK182.out 1; have hfz46_2 := blk_frozen BK182.out 2; have hfz46_3 := blk_frozen BK182.out 3))
       go_ret
       exact ⟨rs, bw⟩
     ·rw [if_neg c37] at H
      have c37b0 : (a1_0 == 3) = false := beq_eq_false_iff_ne.mpr c37
      have c37b1 : (a1_0 != 3) = true := bne_iff_ne.mpr c37
      by_cases c47 : a1_0 = 4
      ·rw [if_pos c47] at H
       have c47b0 : (a1_0 == 4) = true := beq_iff_eq.mpr c47
       have c47b1 : (a1_0 != 4) = false := bne_eq_false_iff_eq.mpr c47
       clear c47
       replace H := Option.bind_eq_some_iff.mp H
       obtain ⟨t190, A480, H⟩ := H
       (try dsimp only at H)
       have A48 := Aside0.mk A480
       clear A480
       by_cases c49 : t190 = true
       ·subst c49
        rw [if_pos rfl] at H
        by_cases c50 : a1_2 = 0
        ·rw [if_pos c50] at H
         have c50b0 : (a1_2 == 0) = true := beq_iff_eq.mpr c50
         have c50b1 : (a1_2 != 0) = false := bne_eq_false_iff_eq.mpr c50
         clear c50
         replace H := Option.bind_eq_some_iff.mp H
         obtain ⟨t191, A510, H⟩ := H
         (try dsimp only at H)
         have A51 := Aside0.mk A510
         clear A510
         obtain rfl := Option.some.inj H
         go_enter Try.func35, Try.ntmps35
         go_wp2_with (first | ((with_reducible refine gate_dst (N := 3) rfl ?_); refine bx 3 37 #[.int .i64 a1_0, .int .i64 a1_1, .int .i64 a1_2, .int .i64 a1_3] ?_; intro gb182 hg w52 hbox hb; have BK182 := hbox; have GW182 := gs hg; have GE182 := gs hg; replace HB := bs hb; clear hb hbox hg) | ((with_reducible refine gate_callee (f := 32) rfl ?_); refine gl (some 6) Try.func32 #[.int .i64 a0] ?_; (with_reducible refine (impl_isHidden.calls a0 true _ A3.out).mono ?_); rintro e w' ⟨rfl, ⟨nd, rfl⟩⟩; refine ⟨_, rfl, ?_⟩; have hcz53_0 := bc BK182 0 (.int .i64 a1_0); have hcz53_1 := bc BK182 1 (.int .i64 a1_1); have hcz53_2 := bc BK182 2 (.int .i64 a1_2); have hcz53_3 := bc BK182 3 (.int .i64 a1_3); have hfz53_0 := blk_frozen BK182.out 0; have hfz53_1 := blk_frozen BK182.out 1; have hfz53_2 := blk_frozen BK182.out 2; have hfz53_3 := blk_frozen BK182.out 3) | ((with_reducible refine gate_callee (f := 29) rfl ?_); refine gl (some 79) Try.func29 #[.int .i64 a1_1, .int .i64 0, .int .i64 (wrap64 (a0 - 1))] ?_; (with_reducible refine (impl_in.calls a1_1 0 (wrap64 (a0 - 1)) true _ A48.out).mono ?_); rintro e w' ⟨rfl, ⟨nd, rfl⟩⟩; refine ⟨_, rfl, ?_⟩) | (go_at_call 29; (with_reducible refine (impl_in.calls a1_3 0 20 t191 _ A51.out).mono ?_); rintro e w' ⟨rfl, ⟨nd, rfl⟩⟩))
         go_ret
         exact ⟨rs, bw⟩
        ·rw [if_neg c50] at H
         have c50b0 : (a1_2 == 0) = false := beq_eq_false_iff_ne.mpr c50
         have c50b1 : (a1_2 != 0) = true := bne_iff_ne.mpr c50
         obtain rfl := Option.some.inj H
         go_enter Try.func35, Try.ntmps35
         go_wp2_with (first | ((with_reducible refine gate_dst (N := 3) rfl ?_); refine bx 3 37 #[.int .i64 a1_0, .int .i64 a1_1, .int .i64 a1_2, .int .i64 a1_3] ?_; intro gb182 hg w54 hbox hb; have BK182 := hbox; have GW182 := gs hg; have GE182 := gs hg; replace HB := bs hb; clear hb hbox hg) | ((with_reducible refine gate_callee (f := 32) rfl ?_); refine gl (some 6) Try.func32 #[.int .i64 a0] ?_; (with_reducible refine (impl_isHidden.calls a0 true _ A3.out).mono ?_); rintro e w' ⟨rfl, ⟨nd, rfl⟩⟩; refine ⟨_, rfl, ?_⟩; have hcz55_0 := bc BK182 0 (.int .i64 a1_0); have hcz55_1 := bc BK182 1 (.int .i64 a1_1); have hcz55_2 := bc BK182 2 (.int .i64 a1_2); have hcz55_3 := bc BK182 3 (.int .i64 a1_3); have hfz55_0 := blk_frozen BK182.out 0; have hfz55_1 := blk_frozen BK182.out 1; have hfz55_2 := blk_frozen BK182.out 2; have hfz55_3 := blk_frozen BK182.out 3) | ((with_reducible refine gate_callee (f := 29) rfl ?_); refine gl (some 79) Try.func29 #[.int .i64 a1_1, .int .i64 0, .int .i64 (wrap64 (a0 - 1))] ?_; (with_reducible refine (impl_in.calls a1_1 0 (wrap64 (a0 - 1)) true _ A48.out).mono ?_); rintro e w' ⟨rfl, ⟨nd, rfl⟩⟩; refine ⟨_, rfl, ?_⟩))
         go_ret
         exact ⟨rs, bw⟩
       ·replace c49 := Bool.eq_false_iff.mpr c49
        subst c49
        rw [if_neg (show ¬ (false = true) by decide)] at H
        obtain rfl := Option.some.inj H
        go_enter Try.func35, Try.ntmps35
        go_wp2_with (first | ((with_reducible refine gate_dst (N := 3) rfl ?_); refine bx 3 37 #[.int .i64 a1_0, .int .i64 a1_1, .int .i64 a1_2, .int .i64 a1_3] ?_; intro gb182 hg w56 hbox hb; have BK182 := hbox; have GW182 := gs hg; have GE182 := gs hg; replace HB := bs hb; clear hb hbox hg) | ((with_reducible refine gate_callee (f := 32) rfl ?_); refine gl (some 6) Try.func32 #[.int .i64 a0] ?_; (with_reducible refine (impl_isHidden.calls a0 true _ A3.out).mono ?_); rintro e w' ⟨rfl, ⟨nd, rfl⟩⟩; refine ⟨_, rfl, ?_⟩; have hcz57_0 := bc BK182 0 (.int .i64 a1_0); have hcz57_1 := bc BK182 1 (.int .i64 a1_1); have hcz57_2 := bc BK182 2 (.int .i64 a1_2); have hcz57_3 := bc BK182 3 (.int .i64 a1_3); have hfz57_0 := blk_frozen BK182.out 0; have hfz57_1 := blk_frozen BK182.out 1; have hfz57_2 := blk_frozen BK182.out 2; have hfz57_3 := blk_frozen BK182.out 3) | ((with_reducible refine gate_callee (f := 29) rfl ?_); refine gl (some 79) Try.func29 #[.int .i64 a1_1, .int .i64 0, .int .i64 (wrap64 (a0 - 1))] ?_; (with_reducible refine (impl_in.calls a1_1 0 (wrap64 (a0 - 1)) false _ A48.out).mono ?_); rintro e w' ⟨rfl, ⟨nd, rfl⟩⟩; refine ⟨_, rfl, ?_⟩))
        go_ret
        exact ⟨rs, bw⟩
      ·rw [if_neg c47] at H
       have c47b0 : (a1_0 == 4) = false := beq_eq_false_iff_ne.mpr c47
       have c47b1 : (a1_0 != 4) = true := bne_iff_ne.mpr c47
       obtain rfl := Option.some.inj H
       go_enter Try.func35, Try.ntmps35
       go_wp2_with (first | ((with_reducible refine gate_dst (N := 3) rfl ?_); refine bx 3 37 #[.int .i64 a1_0, .int .i64 a1_1, .int .i64 a1_2, .int .i64 a1_3] ?_; intro gb182 hg w58 hbox hb; have BK182 := hbox; have GW182 := gs hg; have GE182 := gs hg; replace HB := bs hb; clear hb hbox hg) | ((with_reducible refine gate_callee (f := 32) rfl ?_); refine gl (some 6) Try.func32 #[.int .i64 a0] ?_; (with_reducible refine (impl_isHidden.calls a0 true _ A3.out).mono ?_); rintro e w' ⟨rfl, ⟨nd, rfl⟩⟩; refine ⟨_, rfl, ?_⟩; have hcz59_0 := bc BK182 0 (.int .i64 a1_0); have hcz59_1 := bc BK182 1 (.int .i64 a1_1); have hcz59_2 := bc BK182 2 (.int .i64 a1_2); have hcz59_3 := bc BK182 3 (.int .i64 a1_3); have hfz59_0 := blk_frozen BK182.out 0; have hfz59_1 := blk_frozen BK182.out 1; have hfz59_2 := blk_frozen BK182.out 2; have hfz59_3 := blk_frozen BK182.out 3))
       go_ret
       exact ⟨rs, bw⟩
 ·replace c4 := Bool.eq_false_iff.mpr c4
  subst c4
  rw [if_neg (show ¬ (false = true) by decide)] at H
  obtain rfl := Option.some.inj H
  go_enter Try.func35, Try.ntmps35
  go_wp2_with (first | ((with_reducible refine gate_dst (N := 3) rfl ?_); refine bx 3 37 #[.int .i64 a1_0, .int .i64 a1_1, .int .i64 a1_2, .int .i64 a1_3] ?_; intro gb182 hg w60 hbox hb; have BK182 := hbox; have GW182 := gs hg; have GE182 := gs hg; replace HB := bs hb; clear hb hbox hg) | ((with_reducible refine gate_callee (f := 32) rfl ?_); refine gl (some 6) Try.func32 #[.int .i64 a0] ?_; (with_reducible refine (impl_isHidden.calls a0 false _ A3.out).mono ?_); rintro e w' ⟨rfl, ⟨nd, rfl⟩⟩; refine ⟨_, rfl, ?_⟩))
  go_ret
  exact ⟨rs, bw⟩

-- NOT PRINTED: function 34 (impl_isPuzzle_1)

/-! ### impl_isPuzzle: function 21 -/
def impl_isPuzzle_clo.f (s0 : Int) (x0 : Int) (x1 : Int) (x2 : Int) (x3 : Int) : Option Bool := (impl_isClue.f s0 x0 x1 x2 x3).bind fun t => some (!t)
set_option maxHeartbeats 8000000 in
set_option maxRecDepth 100000 in
theorem impl_isPuzzle_clo.calls (g : Nat) (s0 : Int) (x0 : Int) (x1 : Int) (x2 : Int) (x3 : Int) (r : Bool) (w : World) (hg0 : w.cell? ⟨g, 0, none⟩ = some (.int .i64 s0)) (h : impl_isPuzzle_clo.f s0 x0 x1 x2 x3 = some r) :
  Calls Try.prog 34 (#[.agg #[.int .i64 x0, .int .i64 x1, .int .i64 x2, .int .i64 x3]] ++ #[.pointer (some ⟨g, 0, none⟩)]) w fun e w' => e = .returned (.bool r) ∧ Below w.heap.size w w' := by
 have hu := Try.underlying37
 have hu2 := Try.underlying29
 have HB := Aside0.mk (Below.refl w.heap.size w)
 have HG0 := Aside0.mk hg0
 clear hg0
 replace h := Option.bind_eq_some_iff.mp h
 obtain ⟨t, A0, H⟩ := h
 have A1 := Aside0.mk A0
 clear A0
 obtain rfl := Option.some.inj H
 clear H
 show Calls Try.prog 34 #[.agg #[.int .i64 x0, .int .i64 x1, .int .i64 x2, .int .i64 x3], .pointer (some ⟨g, 0, none⟩)] w _
 go_enter Try.func34, Try.ntmps34
 go_wp2_with (first | ((with_reducible refine gate_dst (N := 2) rfl ?_); refine box_event ?hg (N := 2) ?hd (cs := #[.int .i64 x0, .int .i64 x1, .int .i64 x2, .int .i64 x3]) (t := 37) ?hr ?_; (case hd => rfl); (case hg => rfl); (case hr => first | (go_simp; done) | (go_simp; rfl)); intro gb hg w8 hbox hb; have n0_ := Aside0.mk (below_step (by repeat (first | exact HB.out | apply pw_below_drewN)) hb); have n1_ := Aside0.mk hbox; have hcg0 : w8.cell? ⟨g, 0, none⟩ = some (.int .i64 s0) := (hb.cell (World.block_lt_of_cell? w _ HG0.out)).trans HG0.out; have hcz0 : w8.cell? ⟨gb, 0, none⟩ = some (.int .i64 x0) := (blk_cell n1_.out 0).trans rfl; have hcz1 : w8.cell? ⟨gb, 1, none⟩ = some (.int .i64 x1) := (blk_cell n1_.out 1).trans rfl; have hcz2 : w8.cell? ⟨gb, 2, none⟩ = some (.int .i64 x2) := (blk_cell n1_.out 2).trans rfl; have hcz3 : w8.cell? ⟨gb, 3, none⟩ = some (.int .i64 x3) := (blk_cell n1_.out 3).trans rfl; clear HB; have HB := n0_; have BK1 := n1_; clear n0_ n1_ hb hbox hg) | (go_at_call 35; (with_reducible refine (impl_isClue.calls s0 x0 x1 x2 x3 t _ A1.out).mono ?_); rintro e w' ⟨rfl, hb⟩; have n0_ := Aside0.mk (below_step HB.out hb); clear HB; have HB := n0_; clear n0_ hb))
 go_ret
 exact ⟨by first | rfl | simp, by repeat (first | exact HB.out | apply pw_below_drewN)⟩
def impl_isPuzzle_idx.l0 : Nat → Int → List (S37) → Int → Option Int
  | 0, _, _, _ => none
  | k + 1, s0, l, i => if i < (l.length : Int) then (if 0 ≤ i then ((impl_isPuzzle_clo.f s0 (rd_T37 l i).f0 (rd_T37 l i).f1 (rd_T37 l i).f2 (rd_T37 l i).f3).bind fun t => (if t = true then (some i) else (impl_isPuzzle_idx.l0 k s0 l (wrap64 (i + 1))))) else none) else (some (-1))
theorem impl_isPuzzle_idx.mono_l : ∀ k, (∀ y0 y1 y2, LeO (impl_isPuzzle_idx.l0 k y0 y1 y2) (impl_isPuzzle_idx.l0 (k + 1) y0 y1 y2))
  | 0 => fun _ _ _ r h => by simp [impl_isPuzzle_idx.l0] at h
  | k + 1 => by
    have ih0 := impl_isPuzzle_idx.mono_l k
    · intro y0 y1 y2
      unfold impl_isPuzzle_idx.l0
      repeat' first
      | (with_reducible exact ih0 _ _ _)
      | (with_reducible exact LeO.refl _)
      | (with_reducible exact LeO.none _)
      | (with_reducible refine LeO.ite ?_ ?_)
      | (with_reducible refine LeO.bind ?_ (fun _ => ?_))
set_option maxHeartbeats 8000000 in
set_option maxRecDepth 100000 in
theorem impl_isPuzzle_idx.calls (k : Nat) (g : Nat) (s0 : Int) (A0 : Option Addr) (c0 : Nat) (l0 : List (S37)) (r : Int) (w : World) (hr0 : Kd.C k37 w A0 l0.length l0) (hc0 : l0.length ≤ c0) (hg0 : w.cell? ⟨g, 0, none⟩ = some (.int .i64 s0)) (h : impl_isPuzzle_idx.l0 k s0 l0 0 = some r) :
  Calls Try.prog 38 #[.slice A0 l0.length c0, .func (.func 34) #[] #[.pointer (some ⟨g, 0, none⟩)]] w fun e w' => e = .returned (.int .i64 r) ∧ Below w.heap.size w w' := by
 have hu := Try.underlying37
 have HR0 := Aside0.mk hr0
 have HC0 := Aside0.mk hc0
 clear hr0 hc0
 have HG0 := Aside0.mk hg0
 clear hg0
 have HB := Aside0.mk (Below.refl w.heap.size w)
 have H' := Aside0.mk h
 clear h
 go_enter Try.func38, Try.ntmps38
 go_wp2
 go_loopg [8] k (fun kq v8 w' => ∃ (x8 : Int), v8 = .int .i64 x8 ∧ Aside0 (impl_isPuzzle_idx.l0 kq s0 l0 x8 = some r) ∧ Aside0 (kq ≤ k) ∧ Aside0 (Below w.heap.size w w'))
 case atStart => exact ⟨(0), (rs), H', ⟨Nat.le_refl _⟩, HB⟩
 case round =>
  clear H' HB
  obtain ⟨x8, rfl, HA, HK1, HB⟩ := hrel
  cases gk with
  | zero => exact absurd HA.out (by simp [impl_isPuzzle_idx.l0])
  | succ k1 =>
   have H := HA.out
   clear HA
   simp only [impl_isPuzzle_idx.l0] at H
   by_cases c4 : x8 < (l0.length : Int)
   ·rw [if_pos c4] at H
    have c4b0 : decide (x8 < (l0.length : Int)) = true := decide_eq_true c4
    by_cases c5 : 0 ≤ x8
    ·rw [if_pos c5] at H
     have c5b0 : decide (0 ≤ x8) = true := decide_eq_true c5
     replace H := Option.bind_eq_some_iff.mp H
     obtain ⟨t1, A0', H⟩ := H
     have A1 := Aside0.mk A0'
     clear A0'
     obtain ⟨ad, e1, hx0, hx1, hx2, hx3⟩ := at_T37 HR0.out x8 c5 c4
     cases e1
     replace hx0 := (HB.out.cell (World.block_lt_of_cell? w _ hx0)).trans hx0
     replace hx1 := (HB.out.cell (World.block_lt_of_cell? w _ hx1)).trans hx1
     replace hx2 := (HB.out.cell (World.block_lt_of_cell? w _ hx2)).trans hx2
     replace hx3 := (HB.out.cell (World.block_lt_of_cell? w _ hx3)).trans hx3
     have p1 := eq_true c5
     have q1 := eq_true c4
     clear c4 c5
     cases t1 with
     | true =>
      obtain rfl := Option.some.inj H
      clear H
      go_wp2_with (((with_reducible refine gate_dst (N := 16) rfl ?_); refine Fv.goesV_ (some 16) rfl rfl Try.func34 (by kernel_rfl) rfl #[.agg #[.int .i64 (rd_T37 l0 x8).f0, .int .i64 (rd_T37 l0 x8).f1, .int .i64 (rd_T37 l0 x8).f2, .int .i64 (rd_T37 l0 x8).f3]] rfl (by first | rfl | (go_simp; done)) (by first | rfl | (go_simp; done)) ?_; (refine (impl_isPuzzle_clo.calls g s0  _ _ _ _ _ _ ((HB.out.cell (World.block_lt_of_cell? w _ HG0.out)).trans HG0.out) A1.out).mono ?_); rintro e w' ⟨rfl, hb⟩; refine ⟨_, rfl, ?_⟩; have n0_ := Aside0.mk (below_step HB.out hb); clear HB; have HB := n0_; clear n0_ hb))
      go_ret
      exact ⟨by first | rfl | simp, HB.out⟩
     | false =>
      have H' := Aside0.mk (show impl_isPuzzle_idx.l0 k1 s0 l0 (wrap64 (x8 + 1)) = some r from by simpa using H)
      clear H
      go_wp2_with (((with_reducible refine gate_dst (N := 16) rfl ?_); refine Fv.goesV_ (some 16) rfl rfl Try.func34 (by kernel_rfl) rfl #[.agg #[.int .i64 (rd_T37 l0 x8).f0, .int .i64 (rd_T37 l0 x8).f1, .int .i64 (rd_T37 l0 x8).f2, .int .i64 (rd_T37 l0 x8).f3]] rfl (by first | rfl | (go_simp; done)) (by first | rfl | (go_simp; done)) ?_; (refine (impl_isPuzzle_clo.calls g s0  _ _ _ _ _ _ ((HB.out.cell (World.block_lt_of_cell? w _ HG0.out)).trans HG0.out) A1.out).mono ?_); rintro e w' ⟨rfl, hb⟩; refine ⟨_, rfl, ?_⟩; have n0_ := Aside0.mk (below_step HB.out hb); clear HB; have HB := n0_; clear n0_ hb))
      go_roundg k1
      case measure => have := HK1.out; omega
      case rel => exact ⟨(wrap64 (x8 + 1)), (rs), H', ⟨by have := HK1.out; omega⟩, HB⟩
    ·rw [if_neg c5] at H
     exact absurd H (by simp)
   ·rw [if_neg c4] at H
    have c4b0 : decide (x8 < (l0.length : Int)) = false := decide_eq_false c4
    clear c4
    obtain rfl := Option.some.inj H
    clear H
    go_wp2
    go_ret
    exact ⟨by first | rfl | simp, HB.out⟩
def impl_isPuzzle_has.f (k : Nat) (s0 : Int) (l : List (S37)) : Option Bool := (impl_isPuzzle_idx.l0 k s0 l 0).bind fun i => some (decide (0 ≤ i))
theorem impl_isPuzzle_has.mono : ∀ s0 a0 k, LeO (impl_isPuzzle_has.f k s0 a0) (impl_isPuzzle_has.f (k + 1) s0 a0) := by
  intro s0 a0 k
  unfold impl_isPuzzle_has.f
  repeat' first
      | (with_reducible exact impl_isPuzzle_idx.mono_l k _ _ _)
      | (with_reducible exact LeO.refl _)
      | (with_reducible exact LeO.none _)
      | (with_reducible refine LeO.ite ?_ ?_)
      | (with_reducible refine LeO.bind ?_ (fun _ => ?_))
set_option maxHeartbeats 8000000 in
set_option maxRecDepth 100000 in
theorem impl_isPuzzle_has.calls (k : Nat) (g : Nat) (s0 : Int) (A0 : Option Addr) (c0 : Nat) (l0 : List (S37)) (r : Bool) (w : World) (hr0 : Kd.C k37 w A0 l0.length l0) (hc0 : l0.length ≤ c0) (hg0 : w.cell? ⟨g, 0, none⟩ = some (.int .i64 s0)) (h : impl_isPuzzle_has.f k s0 l0 = some r) :
  Calls Try.prog 33 #[.slice A0 l0.length c0, .func (.func 34) #[] #[.pointer (some ⟨g, 0, none⟩)]] w fun e w' => e = .returned (.bool r) ∧ Below w.heap.size w w' := by
 have HR0 := Aside0.mk hr0
 have HC0 := Aside0.mk hc0
 clear hr0 hc0
 have HG0 := Aside0.mk hg0
 clear hg0
 have HB := Aside0.mk (Below.refl w.heap.size w)
 replace h := Option.bind_eq_some_iff.mp h
 obtain ⟨t, A0', H⟩ := h
 have A1 := Aside0.mk A0'
 clear A0'
 obtain rfl := Option.some.inj H
 clear H
 go_enter Try.func33, Try.ntmps33
 go_wp2_with (go_at_call 38; (refine (impl_isPuzzle_idx.calls k g s0 A0 c0 l0 t _ HR0.out HC0.out HG0.out A1.out).mono ?_); rintro e w' ⟨rfl, hb⟩; have n0_ := Aside0.mk (below_step HB.out hb); clear HB; have HB := n0_; clear n0_ hb)
 go_ret
 exact ⟨by first | rfl | simp, HB.out⟩
def impl_isPuzzle.f (k : Nat) (a0_0 : Int) (l0_1 : List S37) : Option Bool := (impl_isHidden.f a0_0).bind fun t1 => (if t1 = true then (if (l0_1.length : Int) ≤ 6 then ((impl_isPuzzle_has.f k a0_0 l0_1).bind fun t3 => (some (!t3))) else (some false)) else (some false))
theorem impl_isPuzzle.mono : ∀ a0 a1 k, LeO (impl_isPuzzle.f k a0 a1) (impl_isPuzzle.f (k + 1) a0 a1) := by
  intro a0 a1 k
  unfold impl_isPuzzle.f
  repeat' first
      | (with_reducible exact impl_isPuzzle_has.mono _ _ k)
      | (with_reducible exact LeO.refl _)
      | (with_reducible exact LeO.none _)
      | (with_reducible refine LeO.ite ?_ ?_)
      | (with_reducible refine LeO.bind ?_ (fun _ => ?_))
set_option maxHeartbeats 8000000 in
set_option maxRecDepth 100000 in
theorem impl_isPuzzle.calls (k : Nat) (a0_0 : Int) (A0_1 : Option Addr) (c0_1 : Nat) (l0_1 : List (S37)) (r : Bool) (w : World) (hr0_1 : Kd.C k37 w A0_1 l0_1.length l0_1) (hc0_1 : l0_1.length ≤ c0_1) (h : impl_isPuzzle.f k a0_0 l0_1 = some r) :
  Calls Try.prog 21 #[.agg #[.int .i64 a0_0, .slice A0_1 l0_1.length c0_1]] w fun e w' => e = .returned (.bool r) ∧ Below w.heap.size w w' := by
 have hu := Try.underlying29
 have HR1 := Aside0.mk hr0_1
 have HC1 := Aside0.mk hc0_1
 clear hr0_1 hc0_1
 have HB := Aside0.mk (Below.refl w.heap.size w)
 replace h := Option.bind_eq_some_iff.mp h
 obtain ⟨t1, A0', H⟩ := h
 have Ax := Aside0.mk A0'
 clear A0'
 cases t1 with
 | false =>
  obtain rfl := Option.some.inj (show (some false) = some r from by simpa using H)
  clear H
  go_enter Try.func21, Try.ntmps21
  go_wp2_with (first | ((with_reducible refine gate_dst (N := 1) rfl ?_); refine box_event ?hg (N := 1) ?hd (cs := #[.int .i64 a0_0, .slice A0_1 l0_1.length c0_1]) (t := 29) ?hr ?_; (case hd => rfl); (case hg => rfl); (case hr => first | (go_simp; done) | (go_simp; rfl)); intro gb hg w8 hbox hb; have n0_ := Aside0.mk (below_step (by repeat (first | exact HB.out | apply pw_below_drewN)) hb); have n1_ := Aside0.mk hbox; have hcz0 : w8.cell? ⟨gb, 0, none⟩ = some (.int .i64 a0_0) := (blk_cell n1_.out 0).trans rfl; have hcz1 : w8.cell? ⟨gb, 1, none⟩ = some (.slice A0_1 l0_1.length c0_1) := (blk_cell n1_.out 1).trans rfl; clear HB; have HB := n0_; have BK1 := n1_; clear n0_ n1_ hb hbox hg) | (go_at_call 32; (with_reducible refine (impl_isHidden.calls a0_0 false _ Ax.out).mono ?_); rintro e w' ⟨rfl, ⟨nd, rfl⟩⟩))
  go_ret
  exact ⟨by first | rfl | simp, by repeat (first | exact HB.out | apply pw_below_drewN)⟩
 | true =>
  replace H : (if (l0_1.length : Int) ≤ 6 then ((impl_isPuzzle_has.f k a0_0 l0_1).bind fun t3 => (some (!t3))) else (some false)) = some r := by simpa using H
  by_cases c6 : (l0_1.length : Int) ≤ 6
  ·rw [if_pos c6] at H
   have c6b0 : decide ((l0_1.length : Int) ≤ 6) = true := decide_eq_true c6
   have c6b1 : decide (l0_1.length ≤ 6) = true := decide_eq_true (by omega)
   clear c6
   replace H := Option.bind_eq_some_iff.mp H
   obtain ⟨t3, A0', H⟩ := H
   have Az := Aside0.mk A0'
   clear A0'
   obtain rfl := Option.some.inj H
   clear H
   go_enter Try.func21, Try.ntmps21
   go_wp2_with (first | ((with_reducible refine gate_dst (N := 1) rfl ?_); refine box_event ?hg (N := 1) ?hd (cs := #[.int .i64 a0_0, .slice A0_1 l0_1.length c0_1]) (t := 29) ?hr ?_; (case hd => rfl); (case hg => rfl); (case hr => first | (go_simp; done) | (go_simp; rfl)); intro gb hg w8 hbox hb; have n0_ := Aside0.mk (below_step (by repeat (first | exact HB.out | apply pw_below_drewN)) hb); have n1_ := Aside0.mk hbox; have hcz0 : w8.cell? ⟨gb, 0, none⟩ = some (.int .i64 a0_0) := (blk_cell n1_.out 0).trans rfl; have hcz1 : w8.cell? ⟨gb, 1, none⟩ = some (.slice A0_1 l0_1.length c0_1) := (blk_cell n1_.out 1).trans rfl; clear HB; have HB := n0_; have BK1 := n1_; clear n0_ n1_ hb hbox hg) | (go_at_call 32; (with_reducible refine (impl_isHidden.calls a0_0 true _ Ax.out).mono ?_); rintro e w' ⟨rfl, ⟨nd, rfl⟩⟩) | (go_at_call 33; (refine (impl_isPuzzle_has.calls k gb a0_0 A0_1 c0_1 l0_1 t3 _ (Kd.C_below HR1.out (by repeat (first | exact HB.out | apply pw_below_drewN))) HC1.out (by first | exact hcz0 | (go_simp; done)) Az.out).mono ?_); rintro e w' ⟨rfl, hb⟩; have n0_ := Aside0.mk (below_step (by repeat (first | exact HB.out | apply pw_below_drewN)) hb); clear HB; have HB := n0_; clear n0_ hb))
   go_ret
   exact ⟨by first | rfl | simp, by repeat (first | exact HB.out | apply pw_below_drewN)⟩
  ·rw [if_neg c6] at H
   have c6b0 : decide ((l0_1.length : Int) ≤ 6) = false := decide_eq_false c6
   have c6b1 : decide (l0_1.length ≤ 6) = false := decide_eq_false (by omega)
   clear c6
   obtain rfl := Option.some.inj H
   clear H
   go_enter Try.func21, Try.ntmps21
   go_wp2_with (first | ((with_reducible refine gate_dst (N := 1) rfl ?_); refine box_event ?hg (N := 1) ?hd (cs := #[.int .i64 a0_0, .slice A0_1 l0_1.length c0_1]) (t := 29) ?hr ?_; (case hd => rfl); (case hg => rfl); (case hr => first | (go_simp; done) | (go_simp; rfl)); intro gb hg w8 hbox hb; have n0_ := Aside0.mk (below_step (by repeat (first | exact HB.out | apply pw_below_drewN)) hb); have n1_ := Aside0.mk hbox; have hcz0 : w8.cell? ⟨gb, 0, none⟩ = some (.int .i64 a0_0) := (blk_cell n1_.out 0).trans rfl; have hcz1 : w8.cell? ⟨gb, 1, none⟩ = some (.slice A0_1 l0_1.length c0_1) := (blk_cell n1_.out 1).trans rfl; clear HB; have HB := n0_; have BK1 := n1_; clear n0_ n1_ hb hbox hg) | (go_at_call 32; (with_reducible refine (impl_isHidden.calls a0_0 true _ Ax.out).mono ?_); rintro e w' ⟨rfl, ⟨nd, rfl⟩⟩))
   go_ret
   exact ⟨by first | rfl | simp, by repeat (first | exact HB.out | apply pw_below_drewN)⟩

/-! ### impl_Clue_24: function 24 -/
def impl_Clue_24.f (l0 : List (S37)) : Option (List (S37)) := if l0.length < 4398046511104 then (some l0) else none
set_option maxHeartbeats 8000000 in
set_option maxRecDepth 100000 in
theorem impl_Clue_24.calls (A0 : Option Addr) (c0 : Nat) (l0 : List (S37)) (r : List (S37)) (w : World) (hr0 : Kd.C k37 w A0 l0.length l0) (hc0 : l0.length ≤ c0) (h : impl_Clue_24.f l0 = some r) :
  Calls Try.prog 24 #[.slice A0 l0.length c0] w fun e w' => ∃ v0_ : Value, e = .returned (v0_) ∧ Kd.R k37 37 w' w.heap.size (fun _ => True) v0_ r ∧ Below w.heap.size w w' := by
 have HR0 := Aside0.mk hr0
 have HC0 := Aside0.mk hc0
 clear hr0 hc0
 have HB := Aside0.mk (Below.refl w.heap.size w)
 unfold impl_Clue_24.f at h
 by_cases c2 : l0.length < 4398046511104
 ·rw [if_pos c2] at h
  have LMc2 := Aside0.mk c2
  clear c2
  obtain rfl := Option.some.inj h
  clear h
  have qnil : ∀ (w : World) (a : Option Addr) (n c n' c' : Nat), (binOp .eql 27 (.slice a n c) (.slice none n' c')).run Try.prog w = .ok (.bool a.isNone) w := fun w a n c n' c' => Lib.run_eql_slice_nil w _ _ a n c n' c' Try.underlying27
  cases A0 with
  | none =>
   obtain rfl : l0 = [] := by
    rcases l0 with _ | ⟨x, l0⟩
    ·rfl
    ·obtain ⟨ad, he, _⟩ := HR0.out.2.2 (by simp)
     cases he
   go_enter Try.func24, Try.ntmps24
   go_wp2
   go_ret
   exact ⟨_, rfl, Kd.R_nil _ _ _ _ _, by repeat (first | exact HB.out | apply pw_below_drewN)⟩
  | some ad0 =>
   obtain ⟨y172, hy172⟩ : ∃ y_ : List (S37), y_ = ([] : List (S37)) := ⟨_, rfl⟩
   have Ny172 := Aside0.mk hy172
   obtain ⟨y175, hy175⟩ : ∃ y_ : List (S37), y_ = y172 ++ l0 := ⟨_, rfl⟩
   have Ny175 := Aside0.mk hy175
   have E175 := Aside0.mk (show y175 = l0 by rw [hy175, hy172]; rfl)
   have LM := Aside0.mk (show y172.length + l0.length < 4398046511104 by rw [hy172]; simpa using LMc2.out)
   clear hy172 hy175
   go_enter Try.func24, Try.ntmps24
   go_wp2_with (first | ((with_reducible refine gate_dst (N := 5) rfl ?_); refine Kd.R_lit k37 _ 37 ?hg (N := 5) ?hd (xs := ([] : List (S37))) (inner := []) (ok := fun _ => True) (okp := fun _ => True) ?hr ?hp (fun _ hk => hk) trivial (Below.refl _ _) (Nat.le_refl _) (by simp) ?_; (case hd => rfl); (case hg => rfl); (case hr => first | (go_simp; done) | (go_simp; rfl)); (case hp => exact (Reps.none _ _)); intro v173 w3 ho4 hb hg_ hnew_; clear hg_ hnew_; rw [← Ny172.out] at ho4; have HO174 := Aside0.mk (Kd.R_lower ho4 (below_size HB.out)); have n0_ := Aside0.mk (below_step HB.out hb); clear HB; have HB := n0_; clear n0_ hb ho4) | ((with_reducible refine gate_builtin (b := .append) (xs := #[.tmp 5, .tmp 6]) rfl ?_); at_builtin; refine Kd.R_append_rows k37 (w0 := w) w.heap.size rfl (.tmp 5) (.tmp 6) 27 37 (.agg #[(.int .i64 0), (.int .i64 0), (.int .i64 0), (.int .i64 0)]) 32 rfl Try.underlying27 info37 rfl (by decide) (by omega) v173 y172 l0 _ _ _ (fun _ => True) (fun _ => False) rfl rfl ?aO ?aR (fun _ _ h => h) (fun _ h => h.elim) ?aF ?aB ?aS ?aL ?_; (case aR => repeat (first | exact (Kd.C_below HR0.out HB.out) | (with_reducible refine Kd.C_alloc ?_ _) | (with_reducible refine Kd.C_drewN ?_ _) | (with_reducible refine Kd.C_drew ?_))); (case aB => repeat (first | exact HB.out | apply pw_below_drewN | apply below_alloc)); (case aF => exact (fun _ _ => trivial)); (case aO => (with_reducible repeat (first | apply Kd.R_alloc | apply Kd.R_drewN | apply Kd.R_drew)); exact HO174.out); (case aS => exact (below_size (by repeat (first | exact HB.out | apply pw_below_drewN | apply below_alloc)))); (case aL => have := LM.out; omega); intro v176 w5 ho hb hg hat; rw [← Ny175.out] at ho; have n0_ := Aside0.mk hb; have HO177 := Aside0.mk ho; clear HB HO174; have HB := n0_; clear n0_ ho hb hg hat))
   go_ret
   exact ⟨_, rfl, by (with_reducible repeat (first | apply Kd.R_alloc | apply Kd.R_drewN | apply Kd.R_drew)); exact E175.out ▸ HO177.out, by repeat (first | exact HB.out | apply pw_below_drewN)⟩
 ·rw [if_neg c2] at h
  exact absurd h (by simp)

-- NOT PRINTED: function 37 (impl_Clue_37)

/-! ### impl_without: function 30 -/
theorem impl_without_zero {P : Program} (w : World) (t e ty : TypeId) (z : Value) (m : Nat) (ht : P.underlying t = some (.slice e)) (hv : ∀ w, (zeroValue e).run P w = .ok z w) (hz : ∀ u ∈ (Builtin.zeroCells z.cells (m + 1)).toList, u.oneCell' = true) (b o c : Nat)
    (hc : ∀ j, j < (Builtin.zeroCells z.cells (m + 1)).toList.length → (w.cell? ⟨b, o + j, none⟩).isSome = true) (hf : ∀ j, j < (Builtin.zeroCells z.cells (m + 1)).toList.length → w.frozen? ⟨b, o + j, none⟩ = false) :
    (Builtin.clear_ #[t] ty #[.slice (some ⟨b, o, none⟩) (m + 1) c]).run P w = .ok (.tuple #[]) (w.setCells b o (Builtin.zeroCells z.cells (m + 1)).toList) := by
  have hst := run_storeCells_cells (P := P) b o (Builtin.zeroCells z.cells (m + 1)).toList 0 w (by simpa using hc) (by simpa using hf) hz
  simp only [Nat.add_zero] at hst
  simp [Builtin.clear_, run_underlying ht, hv]
  simpa using congrArg (fun r => Result.andThen r fun _ w' => Result.ok (Value.tuple #[]) w') hst
theorem impl_without_ones {α : Type} {R : α → List Value → Prop} {size : Nat} {ps : List α} {cs : List Value} (hs : 0 < size) (h : Reps R size ps cs) (h1 : ∀ p c, R p c → ∀ u ∈ c, u.oneCell' = true) : ∀ u ∈ cs, u.oneCell' = true := by
  intro u hu
  obtain ⟨q, hq, rfl⟩ := List.mem_iff_getElem.1 hu
  have hql : q / size < ps.length := by
    rw [Nat.div_lt_iff_lt_mul hs, ← h.1]
    exact hq
  have hc := h.2 (q / size) _ (List.getElem?_eq_getElem hql)
  refine h1 _ _ hc _ ?_
  rw [List.mem_iff_getElem?]
  refine ⟨q % size, ?_⟩
  rw [List.getElem?_take, if_pos (Nat.mod_lt _ hs), List.getElem?_drop, Nat.mul_comm, Nat.div_add_mod, List.getElem?_eq_getElem hq]
theorem impl_without_cut {α : Type} {R : α → List Value → Prop} {ps : List α} {cs : List Value} (h : Reps R 4 ps cs) (i : Nat) (hi : i < ps.length) : Reps R 4 (ps.eraseIdx i) (cs.take (i * 4) ++ cs.drop ((i + 1) * 4)) := by
  have hl := h.1
  refine ⟨by simp [List.length_eraseIdx, hi]; omega, fun j p hj => ?_⟩
  have hlt : j < (ps.eraseIdx i).length := (List.getElem?_eq_some_iff.1 hj).1
  rw [List.length_eraseIdx, if_pos hi] at hlt
  rw [List.getElem?_eraseIdx] at hj
  by_cases hji : j < i
  · rw [if_pos hji] at hj
    have := h.2 j p hj
    rw [List.drop_append_of_le_length (by simp; omega), List.take_append_of_le_length (by simp; omega), List.drop_take, List.take_take, show min 4 (i * 4 - j * 4) = 4 by omega]
    exact this
  · rw [if_neg hji] at hj
    have := h.2 (j + 1) p hj
    rw [List.drop_append, List.drop_of_length_le (by simp; omega), List.nil_append, List.length_take, List.drop_drop, show (i + 1) * 4 + (j * 4 - min (i * 4) cs.length) = (j + 1) * 4 by omega]
    exact this
theorem impl_without_app {ops : Array Oper} {P : Program} {o : Oper} {a : Act} {w : World} {K : Act → World → Prop} {Q : Exit → Act → World → Prop} {E : Prop}
    (hg : o.guard = none) (d x : Operand) (dT sT : TypeId) (hop : o.op = Op.call { callee := Callee.builtin Builtin.append, args := #[d, x], argTypes := #[dT, sT] })
    (v u : Value) (hd : a.eval d = v) (hx : a.eval x = u) {v' : Value} {w' : World} (hr : (Builtin.append_ #[dT, sT] o.type #[v, u]).run P w = .ok v' w') (hK : K (a.put o.dst v') w') :
    if Region.wanted o (yielded ops a.tmps) = true then Oper.wp P o a w K Q else E := by
  have hw : Region.wanted o (yielded ops a.tmps) = true := by simp [Region.wanted, hg]
  rw [if_pos hw]
  unfold Oper.wp
  simp [execOp, hop, resolve, invoke, builtin, hd, hx, hr, Result.andThen]
  exact hK
theorem impl_without_row {w : World} {g t : Nat} {cs : Array Value} (h : w.heap[g]? = some (.cells cs t (0, 0))) (cs' : Array Value) : (w.setRow g cs').heap[g]? = some (.cells cs' t (0, 0)) := by
  simp [World.setRow, Array.getElem?_modify, h]
theorem impl_without_set {t g : Nat} : ∀ (vs : List Value) (o : Nat) (W : World) (L : List Value), W.heap[g]? = some (.cells L.toArray t (0, 0)) → o + vs.length ≤ L.length → ∃ L' : List Value, (W.setCells g o vs).heap[g]? = some (.cells L'.toArray t (0, 0)) ∧ L'.length = L.length ∧ L'.take o = L.take o
  | [], o, W, L, h, _ => ⟨L, h, rfl, rfl⟩
  | v :: r, o, W, L, h, hl => by
    rw [World.setCells]
    simp only [List.length_cons] at hl
    have h1 := blk_set h o v
    rw [show L.toArray.setIfInBounds o v = (L.set o v).toArray by simp] at h1
    obtain ⟨L', h2, h3, h4⟩ := impl_without_set r (o + 1) _ (L.set o v) h1 (by simp; omega)
    refine ⟨L', h2, by simpa using h3, ?_⟩
    have := congrArg (List.take o) h4
    rw [List.take_take, List.take_take, show min o (o + 1) = o by omega, List.take_set_of_le (Nat.le_refl _)] at this
    exact this
theorem impl_without_below {b0 : Nat} {w0 : World} {B : Nat} (hB : b0 ≤ B) : ∀ (vs : List Value) (o : Nat) (W : World), Below b0 w0 W → Below b0 w0 (W.setCells B o vs)
  | [], _, _, h => h
  | v :: r, o, W, h => by
    rw [World.setCells]
    exact impl_without_below hB r (o + 1) _ (h.setCell hB v)
theorem impl_without_rowb {b0 : Nat} {w0 w : World} {g : Nat} (hg : b0 ≤ g) (h : Below b0 w0 w) (cs : Array Value) : Below b0 w0 (w.setRow g cs) :=
  ⟨h.os, h.tape, h.output, by simpa [World.setRow] using h.size, fun k hk => by
    have := h.block k hk
    rw [← this]
    simp only [World.setRow, Array.getElem?_modify]
    rw [if_neg (by omega)]⟩
set_option maxHeartbeats 8000000 in
set_option maxRecDepth 100000 in
theorem impl_without_del (g n cap i base : Nat) (xs : List S37) (w : World) (ho : Kd.R k37 37 w base (fun _ => True) (.slice (some ⟨g, 0, none⟩) n cap) xs) (hn : xs.length = n) (hi : i < n) (hlim : n < 1000000000000) :
    Calls Try.prog 37 #[.slice (some ⟨g, 0, none⟩) n cap, .int .i64 (i : Int), .int .i64 ((i : Int) + 1)] w fun e w' => ∃ v0, e = .returned v0 ∧ Kd.R k37 37 w' base (fun _ => True) v0 (xs.eraseIdx i) ∧ (∀ b0 w0, b0 ≤ base → Below b0 w0 w → Below b0 w0 w') := by
  obtain ⟨_, inner, hown, hreps⟩ := ho
  have hreps' : Reps (k37.M w base (fun k => True ∧ some k ≠ (Value.slice (some ⟨g, 0, none⟩) n cap).ownBlock)) 4 xs inner := hreps
  have hown' : w.ownsRow base 37 4 (.slice (some ⟨g, 0, none⟩) n cap) xs.length inner := hown
  clear hreps hown
  rcases hown'.2 with ⟨h, _⟩ | ⟨g', cap', cur, heq, hbg, hblk, hncap, hmax, hsz, htake⟩
  · cases h
  injection heq with e1 e2 e3
  injection e1 with e1
  injection e1 with e1
  subst e1 e3
  have hones := impl_without_ones (by omega) hreps' (fun p c hp u hu => k37.K_one (k37.K_of_M hp) u hu)
  have hil : inner.length = n * 4 := by have := hreps'.1; rw [hn] at this; exact this
  rw [hn] at hncap htake
  have mixed : Try.prog.follows Departure.mixedOrders = true := by kernel_rfl
  have LIM := Aside0.mk hlim
  have HI := Aside0.mk hi
  have HNC := Aside0.mk hncap
  have HBG := Aside0.mk hbg
  have HBLK := Aside0.mk hblk
  have HSZ := Aside0.mk hsz
  have HTK := Aside0.mk htake
  have HONES := Aside0.mk hones
  have HIL := Aside0.mk hil
  have HREPS := Aside0.mk hreps'
  have HN := Aside0.mk hn
  have HMAX := Aside0.mk hmax
  clear hblk hsz htake hones hil hreps' hown' hbg hmax hn e2
  have p1 : (0 : Int) ≤ (i : Int) := by omega
  have p2 : (i : Int) ≤ (i : Int) + 1 := by omega
  have p3 : (i : Int) + 1 ≤ (n : Int) := by omega
  have p4 : (n : Int) ≤ (cap : Int) := by omega
  have p5 : ((i : Int) + 1).toNat = i + 1 := by omega
  have p6 : (i : Int) ≤ (cap : Int) := by omega
  have p7 : (i : Int) + 1 ≤ (cap : Int) := by omega
  have p8 : ((i : Int) == (i : Int) + 1) = false := beq_eq_false_iff_ne.mpr (by omega)
  have p9 : ¬ ((i : Int) = (i : Int) + 1) := by omega
  have p10 : (0 : Int) ≤ (i : Int) + 1 := by omega
  obtain ⟨i0, hi0, hz0⟩ := Option.map_eq_some_iff.1 info37
  simp only [Prod.mk.injEq] at hz0
  obtain ⟨hz0, hz1, hz2⟩ := hz0
  obtain ⟨A, hA, hsrc⟩ : ∃ A : Addr, (if cap = i + 1 then some (⟨g, 0, none⟩ : Addr) else some ⟨g, (i + 1) * 4, none⟩) = some A ∧ ∀ n1 j u, (inner.drop ((i + 1) * 4))[j]? = some u → (w.drewN n1).cell? (A.add j) = some u := by
    by_cases hc : cap = i + 1
    · refine ⟨_, by rw [if_pos hc], fun n1 j u hu => ?_⟩
      rw [List.drop_of_length_le (by have := HIL.out; omega)] at hu
      simp at hu
    · refine ⟨_, by rw [if_neg hc], fun n1 j u hu => ?_⟩
      have hj := (List.getElem?_eq_some_iff.1 hu).1
      rw [List.length_drop] at hj
      rw [List.getElem?_drop, ← HTK.out, List.getElem?_take, if_pos (by have := HIL.out; omega)] at hu
      rw [Addr.add_lit]
      refine (blk_cell (w := w.drewN n1) HBLK.out _).trans ?_
      rw [← Array.getElem?_toList]
      exact hu
  have hrun : ∀ n1, (Builtin.append_ #[27, 27] 27 #[.slice (some ⟨g, 0, none⟩) i cap, .slice (some A) (n - (i + 1)) (cap - (i + 1))]).run Try.prog (w.drewN n1) = .ok (.slice (some ⟨g, 0, none⟩) (i + (n - (i + 1))) cap) ((w.drewN n1).setRow g (cur.toList.take (i * 4) ++ inner.drop ((i + 1) * 4) ++ cur.toList.drop (i * 4 + (inner.drop ((i + 1) * 4)).length)).toArray) := fun n1 => by
    have := run_append_room (P := Try.prog) (w.drewN n1) 27 27 37 i0 Try.underlying27 hi0 g i cap cur HBLK.out A (n - (i + 1)) (cap - (i + 1)) (inner.drop ((i + 1) * 4)) (by rw [hz1, List.length_drop]; have := HIL.out; omega) (hsrc n1) (fun u hu => HONES.out u (List.mem_of_mem_drop hu)) (by omega) (by rw [hz1, List.length_drop]; have := HIL.out; have := HSZ.out; omega)
    rw [hz1] at this
    exact this
  have HRUN := Aside0.mk hrun
  have HNC2 := Aside0.mk hncap
  have hz0' := hz0
  have hv : ∀ w : World, (zeroValue 37).run Try.prog w = .ok (.agg #[(.int .i64 0), (.int .i64 0), (.int .i64 0), (.int .i64 0)]) w := fun w => by
    simp [zeroValue, typeInfo, hi0, hz0']
  obtain ⟨L, hL⟩ : ∃ L : List Value, L = cur.toList.take (i * 4) ++ (inner.drop ((i + 1) * 4) ++ cur.toList.drop (i * 4 + (inner.length - (i + 1) * 4))) := ⟨_, rfl⟩
  have hLl : L.length = cap * 4 := by
    have := HIL.out
    have := HSZ.out
    rw [hL]
    simp only [List.length_append, List.length_take, List.length_drop, Array.length_toList]
    omega
  have hLt : L.take ((i + (n - (i + 1))) * 4) = inner.take (i * 4) ++ inner.drop ((i + 1) * 4) := by
    have h1 := HIL.out
    have h2 := HSZ.out
    have h3 := HTK.out
    have h4 : cur.toList.take (i * 4) = inner.take (i * 4) := by rw [← h3, List.take_take, show min (i * 4) (n * 4) = i * 4 by omega]
    have h5 : (inner.take (i * 4) ++ inner.drop ((i + 1) * 4)).length = (i + (n - (i + 1))) * 4 := by simp only [List.length_append, List.length_take, List.length_drop]; omega
    rw [hL, h4, ← List.append_assoc, ← h5, List.take_left]
  have hblk1 : ∀ n1, ((w.drewN n1).setRow g L.toArray).heap[g]? = some (.cells L.toArray 37 (0, 0)) := fun n1 => impl_without_row (w := w.drewN n1) HBLK.out _
  have hzl : (Builtin.zeroCells (Value.agg #[(.int .i64 0), (.int .i64 0), (.int .i64 0), (.int .i64 0)]).cells 1).toList = [.int .i64 0, .int .i64 0, .int .i64 0, .int .i64 0] := by first | kernel_rfl | decide | (simp [Builtin.zeroCells, Value.cells]; done)
  have hcl : ∀ n1, (Builtin.clear_ #[27] 0 #[.slice (some ⟨g, (i + (n - (i + 1))) * 4, none⟩) (n - (i + (n - (i + 1)))) (cap - (i + (n - (i + 1))))]).run Try.prog ((w.drewN n1).setRow g L.toArray) = .ok (.tuple #[]) (((w.drewN n1).setRow g L.toArray).setCells g ((i + (n - (i + 1))) * 4) [.int .i64 0, .int .i64 0, .int .i64 0, .int .i64 0]) := fun n1 => by
    rw [show n - (i + (n - (i + 1))) = 0 + 1 by omega]
    have := impl_without_zero (P := Try.prog) ((w.drewN n1).setRow g L.toArray) 27 37 0 _ 0 Try.underlying27 hv (by intro u hu; rw [hzl] at hu; simp at hu; rw [hu]; rfl) g ((i + (n - (i + 1))) * 4) (cap - (i + (n - (i + 1)))) (fun j hj => by
      rw [hzl] at hj
      simp at hj
      rw [blk_cell (hblk1 n1)]
      simp
      omega) (fun j hj => blk_frozen (hblk1 n1) _)
    rw [hzl] at this
    exact this
  have HL := Aside0.mk hL
  have HLL := Aside0.mk hLl
  have HLT := Aside0.mk hLt
  have HCL := Aside0.mk hcl
  have HB1 := Aside0.mk hblk1
  clear hi hncap hlim hrun hsrc hz0 hz2 hz0' hL hLl hLt hcl hblk1 hv hzl
  go_enter Try.func37, Try.ntmps37
  go_wp2
  go_region_law_o (refine impl_without_app rfl _ _ 27 27 rfl _ _ (by simp [Act.eval, Act.put]) (by simp [Act.eval, Act.put]) (HRUN.out _) ?_)
  go_wp2_with (rw [← HL.out, HCL.out])
  go_ret
  obtain ⟨L', g1, g2, g3⟩ := impl_without_set (t := 37) (g := g) [.int .i64 0, .int .i64 0, .int .i64 0, .int .i64 0] ((i + (n - (i + 1))) * 4) _ L (HB1.out 1) (by have := HLL.out; have := HI.out; have := HNC.out; simp; omega)
  have hcut := impl_without_cut HREPS.out i (by rw [HN.out]; exact HI.out)
  have hlen : (xs.eraseIdx i).length = i + (n - (i + 1)) := by have := HI.out; have := HN.out; rw [List.length_eraseIdx, if_pos (by omega)]; omega
  refine ⟨_, rfl, ⟨fun _ _ => trivial, inner.take (i * 4) ++ inner.drop ((i + 1) * 4), ?_, ?_⟩, fun b0 w0 hb h0 => impl_without_below (Nat.le_trans hb HBG.out) _ _ _ (impl_without_rowb (Nat.le_trans hb HBG.out) (pw_below_drewN h0 1) _)⟩
  · refine ⟨hcut.1, .inr ⟨g, cap, L'.toArray, by rw [hlen]; rfl, HBG.out, g1, by rw [hlen]; have := HI.out; have := HNC.out; omega, HMAX.out, by show L'.length = _; rw [g2]; exact HLL.out, ?_⟩⟩
    show L'.take ((xs.eraseIdx i).length * 4) = _
    rw [hlen, g3]
    exact HLT.out
  · exact hcut.imp_ (fun p c hp => by
      obtain rfl := k37_openM hp
      exact k37_mkM _ _ _ p)
theorem impl_without_nonnil {w : World} {base : Nat} {ok : Nat → Prop} {v : Value} {l : List S37} (h : Kd.R k37 37 w base ok v l) (hl : 0 < l.length) : ∃ g c, v = .slice (some ⟨g, 0, none⟩) l.length c := by
  obtain ⟨_, inner, ho, _⟩ := h
  obtain ⟨g, cap, rfl, _, _⟩ := ho.form hl
  exact ⟨g, cap, rfl⟩
def impl_without.f (l0 : List S37) (a1 : Int) : Option (List S37) := (impl_Clue_24.f l0).bind fun t => if 0 ≤ a1 ∧ a1 < (t.length : Int) ∧ t.length < 1000000000000 then some (t.eraseIdx a1.toNat) else none
set_option maxHeartbeats 8000000 in
set_option maxRecDepth 100000 in
theorem impl_without.calls (A0 : Option Addr) (c0 : Nat) (l0 : List S37) (a1 : Int) (r : List S37) (w : World) (hr0 : Kd.C k37 w A0 l0.length l0) (hc0 : l0.length ≤ c0) (h : impl_without.f l0 a1 = some r) :
  Calls Try.prog 30 #[.slice A0 l0.length c0, .int .i64 a1] w fun e w' => ∃ v0_ : Value, e = .returned (v0_) ∧ Kd.R k37 37 w' w.heap.size (fun _ => True) v0_ r ∧ Below w.heap.size w w' := by
 have HR0 := Aside0.mk hr0
 have HC0 := Aside0.mk hc0
 clear hr0 hc0
 have HB := Aside0.mk (Below.refl w.heap.size w)
 replace h := Option.bind_eq_some_iff.mp h
 obtain ⟨t, b1, h⟩ := h
 have B1 := Aside0.mk b1
 clear b1
 by_cases hc : 0 ≤ a1 ∧ a1 < (t.length : Int) ∧ t.length < 1000000000000
 ·rw [if_pos hc] at h
  obtain rfl := Option.some.inj h
  clear h
  obtain ⟨i, rfl⟩ : ∃ i : Nat, a1 = (i : Int) := ⟨a1.toNat, by omega⟩
  have HI := Aside0.mk (show i < t.length by omega)
  have HLM := Aside0.mk hc.2.2
  have ew : IntKind.i64.wrap ((i : Int) + 1) = (i : Int) + 1 := by have := hc.2.2; have e64 : IntKind.i64.bits = 64 := rfl; simp [IntKind.wrap, e64, IntKind.signed]; omega
  have ew2 : wrap64 ((i : Int) + 1) = (i : Int) + 1 := by have := hc.2.2; unfold wrap64; omega
  clear hc
  go_enter Try.func30, Try.ntmps30
  go_wp2_with (first | (go_at_call 24; refine (impl_Clue_24.calls A0 c0 l0 t _ HR0.out HC0.out B1.out).mono ?_; rintro e w' ⟨v1, rfl, ho1, hb⟩; obtain ⟨g1, c1, rfl⟩ := impl_without_nonnil ho1 (by have := HI.out; omega); have HO1 := Aside0.mk ho1; have HB1 := Aside0.mk (below_step HB.out hb); clear ho1 HB hb; have HB := HB1; clear HB1) | (go_at_call 37; refine (impl_without_del g1 t.length c1 i w.heap.size t _ HO1.out rfl HI.out HLM.out).mono ?_; rintro e w' ⟨v2, rfl, ho2, hb2⟩; have HO2 := Aside0.mk ho2; have HB1 := Aside0.mk (hb2 _ _ (Nat.le_refl _) HB.out); clear ho2 HB hb2; have HB := HB1; clear HB1))
  go_ret
  exact ⟨_, rfl, HO2.out, HB.out⟩
 ·rw [if_neg hc] at h
  exact absurd h (by simp)

end Go.Proofs.Ytphfbldnoinanaa.PFnExactDropClue
