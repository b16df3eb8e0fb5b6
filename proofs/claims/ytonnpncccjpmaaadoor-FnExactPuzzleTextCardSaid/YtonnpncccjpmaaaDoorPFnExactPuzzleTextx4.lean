-- Laid by xprint, a program of this session that runs over the kit's print.
import Derived.Test.YtonnpncccjpmaaaDoorPFnExactPuzzleTextx0
import Derived.Test.YtonnpncccjpmaaaDoorPFnExactPuzzleTextx3
namespace Go.Proofs.YtonnpncccjpmaaaDoor.PFnExactPuzzleText
open Go.RowKit Go.Proofs.YtonnpncccjpmaaaDoorW.PrintWords Go.Proofs.YtonnpncccjpmaaaDoorW.PrintLast Go.Proofs.YtonnpncccjpmaaaDoorW.PrintMore Go.Proofs.YtonnpncccjpmaaaDoor.Sq
attribute [local go_sem] max2_int min2_int max_two min_two max_three min_three max_four min_four   -- for this text's walks alone
set_option linter.unusedVariables false
set_option linter.unusedSimpArgs false

/-! ### impl_isClue: function 36 -/
def impl_isClue.f (a0 : Int) (a1_0 : Int) (a1_1 : Int) (a1_2 : Int) (a1_3 : Int) : Option (Bool) := (impl_isHidden.f a0).bind fun t156 => (if t156 = true then (if a1_0 = 0 then ((impl_in.f a1_1 0 (wrap64 (a0 - 1))).bind fun t157 => (if t157 = true then ((impl_in.f a1_2 0 20).bind fun t158 => (if t158 = true then ((impl_in.f a1_3 0 1).bind fun t159 => (some t159)) else (some false))) else (some false))) else (if a1_0 = 1 then (if a1_1 = 0 then (if a1_2 = 0 then ((impl_in.f a1_3 0 a0).bind fun t160 => (some t160)) else (some false)) else (some false)) else (if a1_0 = 2 then (if a1_1 = 0 then (if a1_2 = 0 then ((impl_in.f a1_3 0 20).bind fun t161 => (some t161)) else (some false)) else (some false)) else (if a1_0 = 3 then (if a1_1 = 0 then (if a1_2 = 0 then ((impl_in.f a1_3 0 8).bind fun t162 => (some t162)) else (some false)) else (some false)) else (if a1_0 = 4 then ((impl_in.f a1_1 0 (wrap64 (a0 - 1))).bind fun t163 => (if t163 = true then (if a1_2 = 0 then ((impl_in.f a1_3 0 20).bind fun t164 => (some t164)) else (some false)) else (some false))) else (some false)))))) else (some false))
set_option maxHeartbeats 8000000 in
set_option maxRecDepth 100000 in
theorem impl_isClue.calls (a0 : Int) (a1_0 : Int) (a1_1 : Int) (a1_2 : Int) (a1_3 : Int) (r : Bool) (w : World) (h : impl_isClue.f a0 a1_0 a1_1 a1_2 a1_3 = some r) :
  Calls Tryd.prog 36 #[.int .i64 a0, .agg #[.int .i64 a1_0, .int .i64 a1_1, .int .i64 a1_2, .int .i64 a1_3]] w fun e w' => e = .returned (.bool r) ∧ Below w.heap.size w w' := by
 have hu51 := Tryd.underlying51
 have HB := Aside0.mk (Below.refl w.heap.size w)
 unfold impl_isClue.f at h
 have H := h
 clear h
 replace H := Option.bind_eq_some_iff.mp H
 obtain ⟨t156, A30, H⟩ := H
 (try dsimp only at H)
 have A3 := Aside0.mk A30
 clear A30
 by_cases c4 : t156 = true
 ·subst c4
  rw [if_pos rfl] at H
  by_cases c5 : a1_0 = 0
  ·rw [if_pos c5] at H
   have c5b0 : (a1_0 == 0) = true := beq_iff_eq.mpr c5
   have c5b1 : (a1_0 != 0) = false := bne_eq_false_iff_eq.mpr c5
   clear c5
   replace H := Option.bind_eq_some_iff.mp H
   obtain ⟨t157, A60, H⟩ := H
   (try dsimp only at H)
   have A6 := Aside0.mk A60
   clear A60
   by_cases c7 : t157 = true
   ·subst c7
    rw [if_pos rfl] at H
    replace H := Option.bind_eq_some_iff.mp H
    obtain ⟨t158, A80, H⟩ := H
    (try dsimp only at H)
    have A8 := Aside0.mk A80
    clear A80
    by_cases c9 : t158 = true
    ·subst c9
     rw [if_pos rfl] at H
     replace H := Option.bind_eq_some_iff.mp H
     obtain ⟨t159, A100, H⟩ := H
     (try dsimp only at H)
     have A10 := Aside0.mk A100
     clear A100
     obtain rfl := Option.some.inj H
     go_enter Tryd.func36, Tryd.ntmps36
     go_wp2_with (first | ((with_reducible refine gate_dst (N := 3) rfl ?_); refine bx 3 51 #[.int .i64 a1_0, .int .i64 a1_1, .int .i64 a1_2, .int .i64 a1_3] ?_; intro gb155 hg w11 hbox hb; have BK155 := hbox; have GW155 := gs hg; have GE155 := gs hg; replace HB := bs hb; clear hb hbox hg) | ((with_reducible refine gate_callee (f := 33) rfl ?_); refine gl (some 6) Tryd.func33 #[.int .i64 a0] ?_; (with_reducible refine (impl_isHidden.calls a0 true _ A3.out).mono ?_); rintro e w' ⟨rfl, ⟨nd, rfl⟩⟩; refine ⟨_, rfl, ?_⟩; have hcz12_0 := bc BK155 0 (.int .i64 a1_0); have hcz12_1 := bc BK155 1 (.int .i64 a1_1); have hcz12_2 := bc BK155 2 (.int .i64 a1_2); have hcz12_3 := bc BK155 3 (.int .i64 a1_3); have hfz12_0 := blk_frozen BK155.out 0; have hfz12_1 := blk_frozen BK155.out 1; have hfz12_2 := blk_frozen BK155.out 2; have hfz12_3 := blk_frozen BK155.out 3) | ((with_reducible refine gate_callee (f := 28) rfl ?_); refine gl (some 16) Tryd.func28 #[.int .i64 a1_1, .int .i64 0, .int .i64 (wrap64 (a0 - 1))] ?_; (with_reducible refine (impl_in.calls a1_1 0 (wrap64 (a0 - 1)) true _ A6.out).mono ?_); rintro e w' ⟨rfl, ⟨nd, rfl⟩⟩; refine ⟨_, rfl, ?_⟩) | (go_at_call 28; (with_reducible refine (impl_in.calls a1_2 0 20 true _ A8.out).mono ?_); rintro e w' ⟨rfl, ⟨nd, rfl⟩⟩) | (go_at_call 28; (with_reducible refine (impl_in.calls a1_3 0 1 t159 _ A10.out).mono ?_); rintro e w' ⟨rfl, ⟨nd, rfl⟩⟩))
     go_ret
     exact ⟨rs, bw⟩
    ·replace c9 := Bool.eq_false_iff.mpr c9
     subst c9
     rw [if_neg (show ¬ (false = true) by decide)] at H
     obtain rfl := Option.some.inj H
     go_enter Tryd.func36, Tryd.ntmps36
     go_wp2_with (first | ((with_reducible refine gate_dst (N := 3) rfl ?_); refine bx 3 51 #[.int .i64 a1_0, .int .i64 a1_1, .int .i64 a1_2, .int .i64 a1_3] ?_; intro gb155 hg w13 hbox hb; have BK155 := hbox; have GW155 := gs hg; have GE155 := gs hg; replace HB := bs hb; clear hb hbox hg) | ((with_reducible refine gate_callee (f := 33) rfl ?_); refine gl (some 6) Tryd.func33 #[.int .i64 a0] ?_; (with_reducible refine (impl_isHidden.calls a0 true _ A3.out).mono ?_); rintro e w' ⟨rfl, ⟨nd, rfl⟩⟩; refine ⟨_, rfl, ?_⟩; have hcz14_0 := bc BK155 0 (.int .i64 a1_0); have hcz14_1 := bc BK155 1 (.int .i64 a1_1); have hcz14_2 := bc BK155 2 (.int .i64 a1_2); have hcz14_3 := bc BK155 3 (.int .i64 a1_3); have hfz14_0 := blk_frozen BK155.out 0; have hfz14_1 := blk_frozen BK155.out 1; have hfz14_2 := blk_frozen BK155.out 2; have hfz14_3 := blk_frozen BK155.out 3) | ((with_reducible refine gate_callee (f := 28) rfl ?_); refine gl (some 16) Tryd.func28 #[.int .i64 a1_1, .int .i64 0, .int .i64 (wrap64 (a0 - 1))] ?_; (with_reducible refine (impl_in.calls a1_1 0 (wrap64 (a0 - 1)) true _ A6.out).mono ?_); rintro e w' ⟨rfl, ⟨nd, rfl⟩⟩; refine ⟨_, rfl, ?_⟩) | (go_at_call 28; (with_reducible refine (impl_in.calls a1_2 0 20 false _ A8.out).mono ?_); rintro e w' ⟨rfl, ⟨nd, rfl⟩⟩))
     go_ret
     exact ⟨rs, bw⟩
   ·replace c7 := Bool.eq_false_iff.mpr c7
    subst c7
    rw [if_neg (show ¬ (false = true) by decide)] at H
    obtain rfl := Option.some.inj H
    go_enter Tryd.func36, Tryd.ntmps36
    go_wp2_with (first | ((with_reducible refine gate_dst (N := 3) rfl ?_); refine bx 3 51 #[.int .i64 a1_0, .int .i64 a1_1, .int .i64 a1_2, .int .i64 a1_3] ?_; intro gb155 hg w15 hbox hb; have BK155 := hbox; have GW155 := gs hg; have GE155 := gs hg; replace HB := bs hb; clear hb hbox hg) | ((with_reducible refine gate_callee (f := 33) rfl ?_); refine gl (some 6) Tryd.func33 #[.int .i64 a0] ?_; (with_reducible refine (impl_isHidden.calls a0 true _ A3.out).mono ?_); rintro e w' ⟨rfl, ⟨nd, rfl⟩⟩; refine ⟨_, rfl, ?_⟩; have hcz16_0 := bc BK155 0 (.int .i64 a1_0); have hcz16_1 := bc BK155 1 (.int .i64 a1_1); have hcz16_2 := bc BK155 2 (.int .i64 a1_2); have hcz16_3 := bc BK155 3 (.int .i64 a1_3); have hfz16_0 := blk_frozen BK155.out 0; have hfz16_1 := blk_frozen BK155.out 1; have hfz16_2 := blk_frozen BK155.out 2; have hfz16_3 := blk_frozen BK155.out 3) | ((with_reducible refine gate_callee (f := 28) rfl ?_); refine gl (some 16) Tryd.func28 #[.int .i64 a1_1, .int .i64 0, .int .i64 (wrap64 (a0 - 1))] ?_; (with_reducible refine (impl_in.calls a1_1 0 (wrap64 (a0 - 1)) false _ A6.out).mono ?_); rintro e w' ⟨rfl, ⟨nd, rfl⟩⟩; refine ⟨_, rfl, ?_⟩))
    go_ret
    exact ⟨rs, bw⟩
  ·rw [if_neg c5] at H
   have c5b0 : (a1_0 == 0) = false := beq_eq_false_iff_ne.mpr c5
   have c5b1 : (a1_0 != 0) = true := bne_iff_ne.mpr c5
   by_cases c17 : a1_0 = 1
   ·rw [if_pos c17] at H
    have c17b0 : (a1_0 == 1) = true := beq_iff_eq.mpr c17
    have c17b1 : (a1_0 != 1) = false := bne_eq_false_iff_eq.mpr c17
    clear c17
    by_cases c18 : a1_1 = 0
    ·rw [if_pos c18] at H
     have c18b0 : (a1_1 == 0) = true := beq_iff_eq.mpr c18
     have c18b1 : (a1_1 != 0) = false := bne_eq_false_iff_eq.mpr c18
     clear c18
     by_cases c19 : a1_2 = 0
     ·rw [if_pos c19] at H
      have c19b0 : (a1_2 == 0) = true := beq_iff_eq.mpr c19
      have c19b1 : (a1_2 != 0) = false := bne_eq_false_iff_eq.mpr c19
      clear c19
      replace H := Option.bind_eq_some_iff.mp H
      obtain ⟨t160, A200, H⟩ := H
      (try dsimp only at H)
      have A20 := Aside0.mk A200
      clear A200
      obtain rfl := Option.some.inj H
      go_enter Tryd.func36, Tryd.ntmps36
      go_wp2_with (first | ((with_reducible refine gate_dst (N := 3) rfl ?_); refine bx 3 51 #[.int .i64 a1_0, .int .i64 a1_1, .int .i64 a1_2, .int .i64 a1_3] ?_; intro gb155 hg w21 hbox hb; have BK155 := hbox; have GW155 := gs hg; have GE155 := gs hg; replace HB := bs hb; clear hb hbox hg) | ((with_reducible refine gate_callee (f := 33) rfl ?_); refine gl (some 6) Tryd.func33 #[.int .i64 a0] ?_; (with_reducible refine (impl_isHidden.calls a0 true _ A3.out).mono ?_); rintro e w' ⟨rfl, ⟨nd, rfl⟩⟩; refine ⟨_, rfl, ?_⟩; have hcz22_0 := bc BK155 0 (.int .i64 a1_0); have hcz22_1 := bc BK155 1 (.int .i64 a1_1); have hcz22_2 := bc BK155 2 (.int .i64 a1_2); have hcz22_3 := bc BK155 3 (.int .i64 a1_3); have hfz22_0 := blk_frozen BK155.out 0; have hfz22_1 := blk_frozen BK155.out 1; have hfz22_2 := blk_frozen BK155.out 2; have hfz22_3 := blk_frozen BK155.out 3) | (go_at_call 28; (with_reducible refine (impl_in.calls a1_3 0 a0 t160 _ A20.out).mono ?_); rintro e w' ⟨rfl, ⟨nd, rfl⟩⟩))
      go_ret
      exact ⟨rs, bw⟩
     ·rw [if_neg c19] at H
      have c19b0 : (a1_2 == 0) = false := beq_eq_false_iff_ne.mpr c19
      have c19b1 : (a1_2 != 0) = true := bne_iff_ne.mpr c19
      obtain rfl := Option.some.inj H
      go_enter Tryd.func36, Tryd.ntmps36
      go_wp2_with (first | ((with_reducible refine gate_dst (N := 3) rfl ?_); refine bx 3 51 #[.int .i64 a1_0, .int .i64 a1_1, .int .i64 a1_2, .int .i64 a1_3] ?_; intro gb155 hg w23 hbox hb; have BK155 := hbox; have GW155 := gs hg; have GE155 := gs hg; replace HB := bs hb; clear hb hbox hg) | ((with_reducible refine gate_callee (f := 33) rfl ?_); refine gl (some 6) Tryd.func33 #[.int .i64 a0] ?_; (with_reducible refine (impl_isHidden.calls a0 true _ A3.out).mono ?_); rintro e w' ⟨rfl, ⟨nd, rfl⟩⟩; refine ⟨_, rfl, ?_⟩; have hcz24_0 := bc BK155 0 (.int .i64 a1_0); have hcz24_1 := bc BK155 1 (.int .i64 a1_1); have hcz24_2 := bc BK155 2 (.int .i64 a1_2); have hcz24_3 := bc BK155 3 (.int .i64 a1_3); have hfz24_0 := blk_frozen BK155.out 0; have hfz24_1 := blk_frozen BK155.out 1; have hfz24_2 := blk_frozen BK155.out 2; have hfz24_3 := blk_frozen BK155.out 3))
      go_ret
      exact ⟨rs, bw⟩
    ·rw [if_neg c18] at H
     have c18b0 : (a1_1 == 0) = false := beq_eq_false_iff_ne.mpr c18
     have c18b1 : (a1_1 != 0) = true := bne_iff_ne.mpr c18
     obtain rfl := Option.some.inj H
     go_enter Tryd.func36, Tryd.ntmps36
     go_wp2_with (first | ((with_reducible refine gate_dst (N := 3) rfl ?_); refine bx 3 51 #[.int .i64 a1_0, .int .i64 a1_1, .int .i64 a1_2, .int .i64 a1_3] ?_; intro gb155 hg w25 hbox hb; have BK155 := hbox; have GW155 := gs hg; have GE155 := gs hg; replace HB := bs hb; clear hb hbox hg) | ((with_reducible refine gate_callee (f := 33) rfl ?_); refine gl (some 6) Tryd.func33 #[.int .i64 a0] ?_; (with_reducible refine (impl_isHidden.calls a0 true _ A3.out).mono ?_); rintro e w' ⟨rfl, ⟨nd, rfl⟩⟩; refine ⟨_, rfl, ?_⟩; have hcz26_0 := bc BK155 0 (.int .i64 a1_0); have hcz26_1 := bc BK155 1 (.int .i64 a1_1); have hcz26_2 := bc BK155 2 (.int .i64 a1_2); have hcz26_3 := bc BK155 3 (.int .i64 a1_3); have hfz26_0 := blk_frozen BK155.out 0; have hfz26_1 := blk_frozen BK155.out 1; have hfz26_2 := blk_frozen BK155.out 2; have hfz26_3 := blk_frozen BK155.out 3))
     go_ret
     exact ⟨rs, bw⟩
   ·rw [if_neg c17] at H
    have c17b0 : (a1_0 == 1) = false := beq_eq_false_iff_ne.mpr c17
    have c17b1 : (a1_0 != 1) = true := bne_iff_ne.mpr c17
    by_cases c27 : a1_0 = 2
    ·rw [if_pos c27] at H
     have c27b0 : (a1_0 == 2) = true := beq_iff_eq.mpr c27
     have c27b1 : (a1_0 != 2) = false := bne_eq_false_iff_eq.mpr c27
     clear c27
     by_cases c28 : a1_1 = 0
     ·rw [if_pos c28] at H
      have c28b0 : (a1_1 == 0) = true := beq_iff_eq.mpr c28
      have c28b1 : (a1_1 != 0) = false := bne_eq_false_iff_eq.mpr c28
      clear c28
      by_cases c29 : a1_2 = 0
      ·rw [if_pos c29] at H
       have c29b0 : (a1_2 == 0) = true := beq_iff_eq.mpr c29
       have c29b1 : (a1_2 != 0) = false := bne_eq_false_iff_eq.mpr c29
       clear c29
       replace H := Option.bind_eq_some_iff.mp H
       obtain ⟨t161, A300, H⟩ := H
       (try dsimp only at H)
       have A30 := Aside0.mk A300
       clear A300
       obtain rfl := Option.some.inj H
       go_enter Tryd.func36, Tryd.ntmps36
       go_wp2_with (first | ((with_reducible refine gate_dst (N := 3) rfl ?_); refine bx 3 51 #[.int .i64 a1_0, .int .i64 a1_1, .int .i64 a1_2, .int .i64 a1_3] ?_; intro gb155 hg w31 hbox hb; have BK155 := hbox; have GW155 := gs hg; have GE155 := gs hg; replace HB := bs hb; clear hb hbox hg) | ((with_reducible refine gate_callee (f := 33) rfl ?_); refine gl (some 6) Tryd.func33 #[.int .i64 a0] ?_; (with_reducible refine (impl_isHidden.calls a0 true _ A3.out).mono ?_); rintro e w' ⟨rfl, ⟨nd, rfl⟩⟩; refine ⟨_, rfl, ?_⟩; have hcz32_0 := bc BK155 0 (.int .i64 a1_0); have hcz32_1 := bc BK155 1 (.int .i64 a1_1); have hcz32_2 := bc BK155 2 (.int .i64 a1_2); have hcz32_3 := bc BK155 3 (.int .i64 a1_3); have hfz32_0 := blk_frozen BK155.out 0; have hfz32_1 := blk_frozen BK155.out 1; have hfz32_2 := blk_frozen BK155.out 2; have hfz32_3 := blk_frozen BK155.out 3) | (go_at_call 28; (with_reducible refine (impl_in.calls a1_3 0 20 t161 _ A30.out).mono ?_); rintro e w' ⟨rfl, ⟨nd, rfl⟩⟩))
       go_ret
       exact ⟨rs, bw⟩
      ·rw [if_neg c29] at H
       have c29b0 : (a1_2 == 0) = false := beq_eq_false_iff_ne.mpr c29
       have c29b1 : (a1_2 != 0) = true := bne_iff_ne.mpr c29
       obtain rfl := Option.some.inj H
       go_enter Tryd.func36, Tryd.ntmps36
       go_wp2_with (first | ((with_reducible refine gate_dst (N := 3) rfl ?_); refine bx 3 51 #[.int .i64 a1_0, .int .i64 a1_1, .int .i64 a1_2, .int .i64 a1_3] ?_; intro gb155 hg w33 hbox hb; have BK155 := hbox; have GW155 := gs hg; have GE155 := gs hg; replace HB := bs hb; clear hb hbox hg) | ((with_reducible refine gate_callee (f := 33) rfl ?_); refine gl (some 6) Tryd.func33 #[.int .i64 a0] ?_; (with_reducible refine (impl_isHidden.calls a0 true _ A3.out).mono ?_); rintro e w' ⟨rfl, ⟨nd, rfl⟩⟩; refine ⟨_, rfl, ?_⟩; have hcz34_0 := bc BK155 0 (.int .i64 a1_0); have hcz34_1 := bc BK155 1 (.int .i64 a1_1); have hcz34_2 := bc BK155 2 (.int .i64 a1_2); have hcz34_3 := bc BK155 3 (.int .i64 a1_3); have hfz34_0 := blk_frozen BK155.out 0; have hfz34_1 := blk_frozen BK155.out 1; have hfz34_2 := blk_frozen BK155.out 2; have hfz34_3 := blk_frozen BK155.out 3))
       go_ret
       exact ⟨rs, bw⟩
     ·rw [if_neg c28] at H
      have c28b0 : (a1_1 == 0) = false := beq_eq_false_iff_ne.mpr c28
      have c28b1 : (a1_1 != 0) = true := bne_iff_ne.mpr c28
      obtain rfl := Option.some.inj H
      go_enter Tryd.func36, Tryd.ntmps36
      go_wp2_with (first | ((with_reducible refine gate_dst (N := 3) rfl ?_); refine bx 3 51 #[.int .i64 a1_0, .int .i64 a1_1, .int .i64 a1_2, .int .i64 a1_3] ?_; intro gb155 hg w35 hbox hb; have BK155 := hbox; have GW155 := gs hg; have GE155 := gs hg; replace HB := bs hb; clear hb hbox hg) | ((with_reducible refine gate_callee (f := 33) rfl ?_); refine gl (some 6) Tryd.func33 #[.int .i64 a0] ?_; (with_reducible refine (impl_isHidden.calls a0 true _ A3.out).mono ?_); rintro e w' ⟨rfl, ⟨nd, rfl⟩⟩; refine ⟨_, rfl, ?_⟩; have hcz36_0 := bc BK155 0 (.int .i64 a1_0); have hcz36_1 := bc BK155 1 (.int .i64 a1_1); have hcz36_2 := bc BK155 2 (.int .i64 a1_2); have hcz36_3 := bc BK155 3 (.int .i64 a1_3); have hfz36_0 := blk_frozen BK155.out 0; have hfz36_1 := blk_frozen BK155.out 1; have hfz36_2 := blk_frozen BK155.out 2; have hfz36_3 := blk_frozen BK155.out 3))
      go_ret
      exact ⟨rs, bw⟩
    ·rw [if_neg c27] at H
     have c27b0 : (a1_0 == 2) = false := beq_eq_false_iff_ne.mpr c27
     have c27b1 : (a1_0 != 2) = true := bne_iff_ne.mpr c27
     by_cases c37 : a1_0 = 3
     ·rw [if_pos c37] at H
      have c37b0 : (a1_0 == 3) = true := beq_iff_eq.mpr c37
      have c37b1 : (a1_0 != 3) = false := bne_eq_false_iff_eq.mpr c37
      clear c37
      by_cases c38 : a1_1 = 0
      ·rw [if_pos c38] at H
       have c38b0 : (a1_1 == 0) = true := beq_iff_eq.mpr c38
       have c38b1 : (a1_1 != 0) = false := bne_eq_false_iff_eq.mpr c38
       clear c38
       by_cases c39 : a1_2 = 0
       ·rw [if_pos c39] at H
        have c39b0 : (a1_2 == 0) = true := beq_iff_eq.mpr c39
        have c39b1 : (a1_2 != 0) = false := bne_eq_false_iff_eq.mpr c39
        clear c39
        replace H := Option.bind_eq_some_iff.mp H
        obtain ⟨t162, A400, H⟩ := H
        (try dsimp only at H)
        have A40 := Aside0.mk A400
        clear A400
        obtain rfl := Option.some.inj H
        go_enter Tryd.func36, Tryd.ntmps36
        go_wp2_with (first | ((with_reducible refine gate_dst (N := 3) rfl ?_); refine bx 3 51 #[.int .i64 a1_0, .int .i64 a1_1, .int .i64 a1_2, .int .i64 a1_3] ?_; intro gb155 hg w41 hbox hb; have BK155 := hbox; have GW155 := gs hg; have GE155 := gs hg; replace HB := bs hb; clear hb hbox hg) | ((with_reducible refine gate_callee (f := 33) rfl ?_); refine gl (some 6) Tryd.func33 #[.int .i64 a0] ?_; (with_reducible refine (impl_isHidden.calls a0 true _ A3.out).mono ?_); rintro e w' ⟨rfl, ⟨nd, rfl⟩⟩; refine ⟨_, rfl, ?_⟩; have hcz42_0 := bc BK155 0 (.int .i64 a1_0); have hcz42_1 := bc BK155 1 (.int .i64 a1_1); have hcz42_2 := bc BK155 2 (.int .i64 a1_2); have hcz42_3 := bc BK155 3 (.int .i64 a1_3); have hfz42_0 := blk_frozen BK155.out 0; have hfz42_1 := blk_frozen BK155.out 1; have hfz42_2 := blk_frozen BK155.out 2; have hfz42_3 := blk_frozen BK155.out 3) | (go_at_call 28; (with_reducible refine (impl_in.calls a1_3 0 8 t162 _ A40.out).mono ?_); rintro e w' ⟨rfl, ⟨nd, rfl⟩⟩))
        go_ret
        exact ⟨rs, bw⟩
       ·rw [if_neg c39] at H
        have c39b0 : (a1_2 == 0) = false := beq_eq_false_iff_ne.mpr c39
        have c39b1 : (a1_2 != 0) = true := bne_iff_ne.mpr c39
        obtain rfl := Option.some.inj H
        go_enter Tryd.func36, Tryd.ntmps36
        go_wp2_with (first | ((with_reducible refine gate_dst (N := 3) rfl ?_); refine bx 3 51 #[.int .i64 a1_0, .int .i64 a1_1, .int .i64 a1_2, .int .i64 a1_3] ?_; intro gb155 hg w43 hbox hb; have BK155 := hbox; have GW155 := gs hg; have GE155 := gs hg; replace HB := bs hb; clear hb hbox hg) | ((with_reducible refine gate_callee (f := 33) rfl ?_); refine gl (some 6) Tryd.func33 #[.int .i64 a0] ?_; (with_reducible refine (impl_isHidden.calls a0 true _ A3.out).mono ?_); rintro e w' ⟨rfl, ⟨nd, rfl⟩⟩; refine ⟨_, rfl, ?_⟩; have hcz44_0 := bc BK155 0 (.int .i64 a1_0); have hcz44_1 := bc BK155 1 (.int .i64 a1_1); have hcz44_2 := bc BK155 2 (.int .i64 a1_2); have hcz44_3 := bc BK155 3 (.int .i64 a1_3); have hfz44_0 := blk_frozen BK155.out 0; have hfz44_1 := blk_frozen BK155.out 1; have hfz44_2 := blk_frozen BK155.out 2; have hfz44_3 := blk_frozen BK155.out 3))
        go_ret
        exact ⟨rs, bw⟩
      ·rw [if_neg c38] at H
       have c38b0 : (a1_1 == 0) = false := beq_eq_false_iff_ne.mpr c38
       have c38b1 : (a1_1 != 0) = true := bne_iff_ne.mpr c38
       obtain rfl := Option.some.inj H
       go_enter Tryd.func36, Tryd.ntmps36
       go_wp2_with (first | ((with_reducible refine gate_dst (N := 3) rfl ?_); refine bx 3 51 #[.int .i64 a1_0, .int .i64 a1_1, .int .i64 a1_2, .int .i64 a1_3] ?_; intro gb155 hg w45 hbox hb; have BK155 := hbox; have GW155 := gs hg; have GE155 := gs hg; replace HB := bs hb; clear hb hbox hg) | ((with_reducible refine gate_callee (f := 33) rfl ?_); refine gl (some 6) Tryd.func33 #[.int .i64 a0] ?_; (with_reducible refine (impl_isHidden.calls a0 true _ A3.out).mono ?_); rintro e w' ⟨rfl, ⟨nd, rfl⟩⟩; refine ⟨_, rfl, ?_⟩; have hcz46_0 := bc BK155 0 (.int .i64 a1_0); have hcz46_1 := bc BK155 1 (.int .i64 a1_1); have hcz46_2 := bc BK155 2 (.int .i64 a1_2); have hcz46_3 := bc BK155 3 (.int .i64 a1_3); have hfz46_0 := blk_frozen BK155.out 0; have hfz46_1 := blk_frozen BK155.out 1; have hfz46_2 := blk_frozen BK155.out 2; have hfz46_3 := blk_frozen BK155.out 3))
       go_ret
       exact ⟨rs, bw⟩
     ·rw [if_neg c37] at H
      have c37b0 : (a1_0 == 3) = false := beq_eq_false_iff_ne.mpr c37
      have c37b1 : (a1_0 != 3) = true := bne_iff_ne.mpr c37
      by_cases c47 : a1_0 = 4
      ·rw [if_pos c47] at H
       have c47b0 : (a1_0 == 4) = true := beq_iff_eq.mpr c47
       have c47b1 : (a1_0 != 4) = false := bne_eq_false_iff_eq.mpr c47
       clear c47
       replace H := Option.bind_eq_some_iff.mp H
       obtain ⟨t163, A480, H⟩ := H
       (try dsimp only at H)
       have A48 := Aside0.mk A480
       clear A480
       by_cases c49 : t163 = true
       ·subst c49
        rw [if_pos rfl] at H
        by_cases c50 : a1_2 = 0
        ·rw [if_pos c50] at H
         have c50b0 : (a1_2 == 0) = true := beq_iff_eq.mpr c50
         have c50b1 : (a1_2 != 0) = false := bne_eq_false_iff_eq.mpr c50
         clear c50
         replace H := Option.bind_eq_some_iff.mp H
         obtain ⟨t164, A510, H⟩ := H
         (try dsimp only at H)
         have A51 := Aside0.mk A510
         clear A510
         obtain rfl := Option.some.inj H
         go_enter Tryd.func36, Tryd.ntmps36
         go_wp2_with (first | ((with_reducible refine gate_dst (N := 3) rfl ?_); refine bx 3 51 #[.int .i64 a1_0, .int .i64 a1_1, .int .i64 a1_2, .int .i64 a1_3] ?_; intro gb155 hg w52 hbox hb; have BK155 := hbox; have GW155 := gs hg; have GE155 := gs hg; replace HB := bs hb; clear hb hbox hg) | ((with_reducible refine gate_callee (f := 33) rfl ?_); refine gl (some 6) Tryd.func33 #[.int .i64 a0] ?_; (with_reducible refine (impl_isHidden.calls a0 true _ A3.out).mono ?_); rintro e w' ⟨rfl, ⟨nd, rfl⟩⟩; refine ⟨_, rfl, ?_⟩; have hcz53_0 := bc BK155 0 (.int .i64 a1_0); have hcz53_1 := bc BK155 1 (.int .i64 a1_1); have hcz53_2 := bc BK155 2 (.int .i64 a1_2); have hcz53_3 := bc BK155 3 (.int .i64 a1_3); have hfz53_0 := blk_frozen BK155.out 0; have hfz53_1 := blk_frozen BK155.out 1; have hfz53_2 := blk_frozen BK155.out 2; have hfz53_3 := blk_frozen BK155.out 3) | ((with_reducible refine gate_callee (f := 28) rfl ?_); refine gl (some 79) Tryd.func28 #[.int .i64 a1_1, .int .i64 0, .int .i64 (wrap64 (a0 - 1))] ?_; (with_reducible refine (impl_in.calls a1_1 0 (wrap64 (a0 - 1)) true _ A48.out).mono ?_); rintro e w' ⟨rfl, ⟨nd, rfl⟩⟩; refine ⟨_, rfl, ?_⟩) | (go_at_call 28; (with_reducible refine (impl_in.calls a1_3 0 20 t164 _ A51.out).mono ?_); rintro e w' ⟨rfl, ⟨nd, rfl⟩⟩))
         go_ret
         exact ⟨rs, bw⟩
        ·rw [if_neg c50] at H
         have c50b0 : (a1_2 == 0) = false := beq_eq_false_iff_ne.mpr c50
         have c50b1 : (a1_2 != 0) = true := bne_iff_ne.mpr c50
         obtain rfl := Option.some.inj H
         go_enter Tryd.func36, Tryd.ntmps36
         go_wp2_with (first | ((with_reducible refine gate_dst (N := 3) rfl ?_); refine bx 3 51 #[.int .i64 a1_0, .int .i64 a1_1, .int .i64 a1_2, .int .i64 a1_3] ?_; intro gb155 hg w54 hbox hb; have BK155 := hbox; have GW155 := gs hg; have GE155 := gs hg; replace HB := bs hb; clear hb hbox hg) | ((with_reducible refine gate_callee (f := 33) rfl ?_); refine gl (some 6) Tryd.func33 #[.int .i64 a0] ?_; (with_reducible refine (impl_isHidden.calls a0 true _ A3.out).mono ?_); rintro e w' ⟨rfl, ⟨nd, rfl⟩⟩; refine ⟨_, rfl, ?_⟩; have hcz55_0 := bc BK155 0 (.int .i64 a1_0); have hcz55_1 := bc BK155 1 (.int .i64 a1_1); have hcz55_2 := bc BK155 2 (.int .i64 a1_2); have hcz55_3 := bc BK155 3 (.int .i64 a1_3); have hfz55_0 := blk_frozen BK155.out 0; have hfz55_1 := blk_frozen BK155.out 1; have hfz55_2 := blk_frozen BK155.out 2; have hfz55_3 := blk_frozen BK155.out 3) | ((with_reducible refine gate_callee (f := 28) rfl ?_); refine gl (some 79) Tryd.func28 #[.int .i64 a1_1, .int .i64 0, .int .i64 (wrap64 (a0 - 1))] ?_; (with_reducible refine (impl_in.calls a1_1 0 (wrap64 (a0 - 1)) true _ A48.out).mono ?_); rintro e w' ⟨rfl, ⟨nd, rfl⟩⟩; refine ⟨_, rfl, ?_⟩))
         go_ret
         exact ⟨rs, bw⟩
       ·replace c49 := Bool.eq_false_iff.mpr c49
        subst c49
        rw [if_neg (show ¬ (false = true) by decide)] at H
        obtain rfl := Option.some.inj H
        go_enter Tryd.func36, Tryd.ntmps36
        go_wp2_with (first | ((with_reducible refine gate_dst (N := 3) rfl ?_); refine bx 3 51 #[.int .i64 a1_0, .int .i64 a1_1, .int .i64 a1_2, .int .i64 a1_3] ?_; intro gb155 hg w56 hbox hb; have BK155 := hbox; have GW155 := gs hg; have GE155 := gs hg; replace HB := bs hb; clear hb hbox hg) | ((with_reducible refine gate_callee (f := 33) rfl ?_); refine gl (some 6) Tryd.func33 #[.int .i64 a0] ?_; (with_reducible refine (impl_isHidden.calls a0 true _ A3.out).mono ?_); rintro e w' ⟨rfl, ⟨nd, rfl⟩⟩; refine ⟨_, rfl, ?_⟩; have hcz57_0 := bc BK155 0 (.int .i64 a1_0); have hcz57_1 := bc BK155 1 (.int .i64 a1_1); have hcz57_2 := bc BK155 2 (.int .i64 a1_2); have hcz57_3 := bc BK155 3 (.int .i64 a1_3); have hfz57_0 := blk_frozen BK155.out 0; have hfz57_1 := blk_frozen BK155.out 1; have hfz57_2 := blk_frozen BK155.out 2; have hfz57_3 := blk_frozen BK155.out 3) | ((with_reducible refine gate_callee (f := 28) rfl ?_); refine gl (some 79) Tryd.func28 #[.int .i64 a1_1, .int .i64 0, .int .i64 (wrap64 (a0 - 1))] ?_; (with_reducible refine (impl_in.calls a1_1 0 (wrap64 (a0 - 1)) false _ A48.out).mono ?_); rintro e w' ⟨rfl, ⟨nd, rfl⟩⟩; refine ⟨_, rfl, ?_⟩))
        go_ret
        exact ⟨rs, bw⟩
      ·rw [if_neg c47] at H
       have c47b0 : (a1_0 == 4) = false := beq_eq_false_iff_ne.mpr c47
       have c47b1 : (a1_0 != 4) = true := bne_iff_ne.mpr c47
       obtain rfl := Option.some.inj H
       go_enter Tryd.func36, Tryd.ntmps36
       go_wp2_with (first | ((with_reducible refine gate_dst (N := 3) rfl ?_); refine bx 3 51 #[.int .i64 a1_0, .int .i64 a1_1, .int .i64 a1_2, .int .i64 a1_3] ?_; intro gb155 hg w58 hbox hb; have BK155 := hbox; have GW155 := gs hg; have GE155 := gs hg; replace HB := bs hb; clear hb hbox hg) | ((with_reducible refine gate_callee (f := 33) rfl ?_); refine gl (some 6) Tryd.func33 #[.int .i64 a0] ?_; (with_reducible refine (impl_isHidden.calls a0 true _ A3.out).mono ?_); rintro e w' ⟨rfl, ⟨nd, rfl⟩⟩; refine ⟨_, rfl, ?_⟩; have hcz59_0 := bc BK155 0 (.int .i64 a1_0); have hcz59_1 := bc BK155 1 (.int .i64 a1_1); have hcz59_2 := bc BK155 2 (.int .i64 a1_2); have hcz59_3 := bc BK155 3 (.int .i64 a1_3); have hfz59_0 := blk_frozen BK155.out 0; have hfz59_1 := blk_frozen BK155.out 1; have hfz59_2 := blk_frozen BK155.out 2; have hfz59_3 := blk_frozen BK155.out 3))
       go_ret
       exact ⟨rs, bw⟩
 ·replace c4 := Bool.eq_false_iff.mpr c4
  subst c4
  rw [if_neg (show ¬ (false = true) by decide)] at H
  obtain rfl := Option.some.inj H
  go_enter Tryd.func36, Tryd.ntmps36
  go_wp2_with (first | ((with_reducible refine gate_dst (N := 3) rfl ?_); refine bx 3 51 #[.int .i64 a1_0, .int .i64 a1_1, .int .i64 a1_2, .int .i64 a1_3] ?_; intro gb155 hg w60 hbox hb; have BK155 := hbox; have GW155 := gs hg; have GE155 := gs hg; replace HB := bs hb; clear hb hbox hg) | ((with_reducible refine gate_callee (f := 33) rfl ?_); refine gl (some 6) Tryd.func33 #[.int .i64 a0] ?_; (with_reducible refine (impl_isHidden.calls a0 false _ A3.out).mono ?_); rintro e w' ⟨rfl, ⟨nd, rfl⟩⟩; refine ⟨_, rfl, ?_⟩))
  go_ret
  exact ⟨rs, bw⟩

/-! ### impl_isPuzzle: function 21 -/
def impl_isPuzzle_clo.f (s0 : Int) (x0 : Int) (x1 : Int) (x2 : Int) (x3 : Int) : Option Bool := (impl_isClue.f s0 x0 x1 x2 x3).bind fun t => some (!t)
set_option maxHeartbeats 8000000 in
set_option maxRecDepth 100000 in
theorem impl_isPuzzle_clo.calls (g : Nat) (s0 : Int) (x0 : Int) (x1 : Int) (x2 : Int) (x3 : Int) (r : Bool) (w : World) (hg0 : w.cell? ⟨g, 0, none⟩ = some (.int .i64 s0)) (h : impl_isPuzzle_clo.f s0 x0 x1 x2 x3 = some r) :
  Calls Tryd.prog 35 (#[.agg #[.int .i64 x0, .int .i64 x1, .int .i64 x2, .int .i64 x3]] ++ #[.pointer (some ⟨g, 0, none⟩)]) w fun e w' => e = .returned (.bool r) ∧ Below w.heap.size w w' := by
 have hu := Tryd.underlying51
 have hu2 := Tryd.underlying36
 have HB := Aside0.mk (Below.refl w.heap.size w)
 have HG0 := Aside0.mk hg0
 clear hg0
 replace h := Option.bind_eq_some_iff.mp h
 obtain ⟨t, A0, H⟩ := h
 have A1 := Aside0.mk A0
 clear A0
 obtain rfl := Option.some.inj H
 clear H
 show Calls Tryd.prog 35 #[.agg #[.int .i64 x0, .int .i64 x1, .int .i64 x2, .int .i64 x3], .pointer (some ⟨g, 0, none⟩)] w _
 go_enter Tryd.func35, Tryd.ntmps35
 go_wp2_with (first | ((with_reducible refine gate_dst (N := 2) rfl ?_); refine box_event ?hg (N := 2) ?hd (cs := #[.int .i64 x0, .int .i64 x1, .int .i64 x2, .int .i64 x3]) (t := 51) ?hr ?_; (case hd => rfl); (case hg => rfl); (case hr => first | (go_simp; done) | (go_simp; rfl)); intro gb hg w8 hbox hb; have n0_ := Aside0.mk (below_step (by repeat (first | exact HB.out | apply pw_below_drewN)) hb); have n1_ := Aside0.mk hbox; have hcg0 : w8.cell? ⟨g, 0, none⟩ = some (.int .i64 s0) := (hb.cell (World.block_lt_of_cell? w _ HG0.out)).trans HG0.out; have hcz0 : w8.cell? ⟨gb, 0, none⟩ = some (.int .i64 x0) := (blk_cell n1_.out 0).trans rfl; have hcz1 : w8.cell? ⟨gb, 1, none⟩ = some (.int .i64 x1) := (blk_cell n1_.out 1).trans rfl; have hcz2 : w8.cell? ⟨gb, 2, none⟩ = some (.int .i64 x2) := (blk_cell n1_.out 2).trans rfl; have hcz3 : w8.cell? ⟨gb, 3, none⟩ = some (.int .i64 x3) := (blk_cell n1_.out 3).trans rfl; clear HB; have HB := n0_; have BK1 := n1_; clear n0_ n1_ hb hbox hg) | (go_at_call 36; (with_reducible refine (impl_isClue.calls s0 x0 x1 x2 x3 t _ A1.out).mono ?_); rintro e w' ⟨rfl, hb⟩; have n0_ := Aside0.mk (below_step HB.out hb); clear HB; have HB := n0_; clear n0_ hb))
 go_ret
 exact ⟨by first | rfl | simp, by repeat (first | exact HB.out | apply pw_below_drewN)⟩
def impl_isPuzzle_idx.l0 : Nat → Int → List (S51) → Int → Option Int
  | 0, _, _, _ => none
  | k + 1, s0, l, i => if i < (l.length : Int) then (if 0 ≤ i then ((impl_isPuzzle_clo.f s0 (rd_T51 l i).f0 (rd_T51 l i).f1 (rd_T51 l i).f2 (rd_T51 l i).f3).bind fun t => (if t = true then (some i) else (impl_isPuzzle_idx.l0 k s0 l (wrap64 (i + 1))))) else none) else (some (-1))
theorem impl_isPuzzle_idx.mono_l : ∀ k, (∀ y0 y1 y2, LeO (impl_isPuzzle_idx.l0 k y0 y1 y2) (impl_isPuzzle_idx.l0 (k + 1) y0 y1 y2))
  | 0 => fun _ _ _ r h => by simp [impl_isPuzzle_idx.l0] at h
  | k + 1 => by
    have ih0 := impl_isPuzzle_idx.mono_l k
    · intro y0 y1 y2
      unfold impl_isPuzzle_idx.l0
      repeat' first
      | (with_reducible exact ih0 _ _ _)
      | (with_reducible exact LeO.refl _)
      | (with_reducible exact LeO.none _)
      | (with_reducible refine LeO.ite ?_ ?_)
      | (with_reducible refine LeO.bind ?_ (fun _ => ?_))
set_option maxHeartbeats 8000000 in
set_option maxRecDepth 100000 in
theorem impl_isPuzzle_idx.calls (k : Nat) (g : Nat) (s0 : Int) (A0 : Option Addr) (c0 : Nat) (l0 : List (S51)) (r : Int) (w : World) (hr0 : Kd.C k51 w A0 l0.length l0) (hc0 : l0.length ≤ c0) (hg0 : w.cell? ⟨g, 0, none⟩ = some (.int .i64 s0)) (h : impl_isPuzzle_idx.l0 k s0 l0 0 = some r) :
  Calls Tryd.prog 40 #[.slice A0 l0.length c0, .func (.func 35) #[] #[.pointer (some ⟨g, 0, none⟩)]] w fun e w' => e = .returned (.int .i64 r) ∧ Below w.heap.size w w' := by
 have hu := Tryd.underlying51
 have HR0 := Aside0.mk hr0
 have HC0 := Aside0.mk hc0
 clear hr0 hc0
 have HG0 := Aside0.mk hg0
 clear hg0
 have HB := Aside0.mk (Below.refl w.heap.size w)
 have H' := Aside0.mk h
 clear h
 go_enter Tryd.func40, Tryd.ntmps40
 go_wp2
 go_loopg [8] k (fun kq v8 w' => ∃ (x8 : Int), v8 = .int .i64 x8 ∧ Aside0 (impl_isPuzzle_idx.l0 kq s0 l0 x8 = some r) ∧ Aside0 (kq ≤ k) ∧ Aside0 (Below w.heap.size w w'))
 case atStart => exact ⟨(0), (rs), H', ⟨Nat.le_refl _⟩, HB⟩
 case round =>
  clear H' HB
  obtain ⟨x8, rfl, HA, HK1, HB⟩ := hrel
  cases gk with
  | zero => exact absurd HA.out (by simp [impl_isPuzzle_idx.l0])
  | succ k1 =>
   have H := HA.out
   clear HA
   simp only [impl_isPuzzle_idx.l0] at H
   by_cases c4 : x8 < (l0.length : Int)
   ·rw [if_pos c4] at H
    have c4b0 : decide (x8 < (l0.length : Int)) = true := decide_eq_true c4
    by_cases c5 : 0 ≤ x8
    ·rw [if_pos c5] at H
     have c5b0 : decide (0 ≤ x8) = true := decide_eq_true c5
     replace H := Option.bind_eq_some_iff.mp H
     obtain ⟨t1, A0', H⟩ := H
     have A1 := Aside0.mk A0'
     clear A0'
     obtain ⟨ad, e1, hx0, hx1, hx2, hx3⟩ := at_T51 HR0.out x8 c5 c4
     cases e1
     replace hx0 := (HB.out.cell (World.block_lt_of_cell? w _ hx0)).trans hx0
     replace hx1 := (HB.out.cell (World.block_lt_of_cell? w _ hx1)).trans hx1
     replace hx2 := (HB.out.cell (World.block_lt_of_cell? w _ hx2)).trans hx2
     replace hx3 := (HB.out.cell (World.block_lt_of_cell? w _ hx3)).trans hx3
     have p1 := eq_true c5
     have q1 := eq_true c4
     clear c4 c5
     cases t1 with
     | true =>
      obtain rfl := Option.some.inj H
      clear H
      go_wp2_with (((with_reducible refine gate_dst (N := 16) rfl ?_); refine Fv.goesV_ (some 16) rfl rfl Tryd.func35 (by kernel_rfl) rfl #[.agg #[.int .i64 (rd_T51 l0 x8).f0, .int .i64 (rd_T51 l0 x8).f1, .int .i64 (rd_T51 l0 x8).f2, .int .i64 (rd_T51 l0 x8).f3]] rfl (by first | rfl | (go_simp; done)) (by first | rfl | (go_simp; done)) ?_; (refine (impl_isPuzzle_clo.calls g s0  _ _ _ _ _ _ ((HB.out.cell (World.block_lt_of_cell? w _ HG0.out)).trans HG0.out) A1.out).mono ?_); rintro e w' ⟨rfl, hb⟩; refine ⟨_, rfl, ?_⟩; have n0_ := Aside0.mk (below_step HB.out hb); clear HB; have HB := n0_; clear n0_ hb))
      go_ret
      exact ⟨by first | rfl | simp, HB.out⟩
     | false =>
      have H' := Aside0.mk (show impl_isPuzzle_idx.l0 k1 s0 l0 (wrap64 (x8 + 1)) = some r from by simpa using H)
      clear H
      go_wp2_with (((with_reducible refine gate_dst (N := 16) rfl ?_); refine Fv.goesV_ (some 16) rfl rfl Tryd.func35 (by kernel_rfl) rfl #[.agg #[.int .i64 (rd_T51 l0 x8).f0, .int .i64 (rd_T51 l0 x8).f1, .int .i64 (rd_T51 l0 x8).f2, .int .i64 (rd_T51 l0 x8).f3]] rfl (by first | rfl | (go_simp; done)) (by first | rfl | (go_simp; done)) ?_; (refine (impl_isPuzzle_clo.calls g s0  _ _ _ _ _ _ ((HB.out.cell (World.block_lt_of_cell? w _ HG0.out)).trans HG0.out) A1.out).mono ?_); rintro e w' ⟨rfl, hb⟩; refine ⟨_, rfl, ?_⟩; have n0_ := Aside0.mk (below_step HB.out hb); clear HB; have HB := n0_; clear n0_ hb))
      go_roundg k1
      case measure => have := HK1.out; omega
      case rel => exact ⟨(wrap64 (x8 + 1)), (rs), H', ⟨by have := HK1.out; omega⟩, HB⟩
    ·rw [if_neg c5] at H
     exact absurd H (by simp)
   ·rw [if_neg c4] at H
    have c4b0 : decide (x8 < (l0.length : Int)) = false := decide_eq_false c4
    clear c4
    obtain rfl := Option.some.inj H
    clear H
    go_wp2
    go_ret
    exact ⟨by first | rfl | simp, HB.out⟩
def impl_isPuzzle_has.f (k : Nat) (s0 : Int) (l : List (S51)) : Option Bool := (impl_isPuzzle_idx.l0 k s0 l 0).bind fun i => some (decide (0 ≤ i))
theorem impl_isPuzzle_has.mono : ∀ s0 a0 k, LeO (impl_isPuzzle_has.f k s0 a0) (impl_isPuzzle_has.f (k + 1) s0 a0) := by
  intro s0 a0 k
  unfold impl_isPuzzle_has.f
  repeat' first
      | (with_reducible exact impl_isPuzzle_idx.mono_l k _ _ _)
      | (with_reducible exact LeO.refl _)
      | (with_reducible exact LeO.none _)
      | (with_reducible refine LeO.ite ?_ ?_)
      | (with_reducible refine LeO.bind ?_ (fun _ => ?_))
set_option maxHeartbeats 8000000 in
set_option maxRecDepth 100000 in
theorem impl_isPuzzle_has.calls (k : Nat) (g : Nat) (s0 : Int) (A0 : Option Addr) (c0 : Nat) (l0 : List (S51)) (r : Bool) (w : World) (hr0 : Kd.C k51 w A0 l0.length l0) (hc0 : l0.length ≤ c0) (hg0 : w.cell? ⟨g, 0, none⟩ = some (.int .i64 s0)) (h : impl_isPuzzle_has.f k s0 l0 = some r) :
  Calls Tryd.prog 34 #[.slice A0 l0.length c0, .func (.func 35) #[] #[.pointer (some ⟨g, 0, none⟩)]] w fun e w' => e = .returned (.bool r) ∧ Below w.heap.size w w' := by
 have HR0 := Aside0.mk hr0
 have HC0 := Aside0.mk hc0
 clear hr0 hc0
 have HG0 := Aside0.mk hg0
 clear hg0
 have HB := Aside0.mk (Below.refl w.heap.size w)
 replace h := Option.bind_eq_some_iff.mp h
 obtain ⟨t, A0', H⟩ := h
 have A1 := Aside0.mk A0'
 clear A0'
 obtain rfl := Option.some.inj H
 clear H
 go_enter Tryd.func34, Tryd.ntmps34
 go_wp2_with (go_at_call 40; (refine (impl_isPuzzle_idx.calls k g s0 A0 c0 l0 t _ HR0.out HC0.out HG0.out A1.out).mono ?_); rintro e w' ⟨rfl, hb⟩; have n0_ := Aside0.mk (below_step HB.out hb); clear HB; have HB := n0_; clear n0_ hb)
 go_ret
 exact ⟨by first | rfl | simp, HB.out⟩
def impl_isPuzzle.f (k : Nat) (a0_0 : Int) (l0_1 : List S51) : Option Bool := (impl_isHidden.f a0_0).bind fun t1 => (if t1 = true then (if (l0_1.length : Int) ≤ 6 then ((impl_isPuzzle_has.f k a0_0 l0_1).bind fun t3 => (some (!t3))) else (some false)) else (some false))
theorem impl_isPuzzle.mono : ∀ a0 a1 k, LeO (impl_isPuzzle.f k a0 a1) (impl_isPuzzle.f (k + 1) a0 a1) := by
  intro a0 a1 k
  unfold impl_isPuzzle.f
  repeat' first
      | (with_reducible exact impl_isPuzzle_has.mono _ _ k)
      | (with_reducible exact LeO.refl _)
      | (with_reducible exact LeO.none _)
      | (with_reducible refine LeO.ite ?_ ?_)
      | (with_reducible refine LeO.bind ?_ (fun _ => ?_))
set_option maxHeartbeats 8000000 in
set_option maxRecDepth 100000 in
theorem impl_isPuzzle.calls (k : Nat) (a0_0 : Int) (A0_1 : Option Addr) (c0_1 : Nat) (l0_1 : List (S51)) (r : Bool) (w : World) (hr0_1 : Kd.C k51 w A0_1 l0_1.length l0_1) (hc0_1 : l0_1.length ≤ c0_1) (h : impl_isPuzzle.f k a0_0 l0_1 = some r) :
  Calls Tryd.prog 21 #[.agg #[.int .i64 a0_0, .slice A0_1 l0_1.length c0_1]] w fun e w' => e = .returned (.bool r) ∧ Below w.heap.size w w' := by
 have hu := Tryd.underlying36
 have HR1 := Aside0.mk hr0_1
 have HC1 := Aside0.mk hc0_1
 clear hr0_1 hc0_1
 have HB := Aside0.mk (Below.refl w.heap.size w)
 replace h := Option.bind_eq_some_iff.mp h
 obtain ⟨t1, A0', H⟩ := h
 have Ax := Aside0.mk A0'
 clear A0'
 cases t1 with
 | false =>
  obtain rfl := Option.some.inj (show (some false) = some r from by simpa using H)
  clear H
  go_enter Tryd.func21, Tryd.ntmps21
  go_wp2_with (first | ((with_reducible refine gate_dst (N := 1) rfl ?_); refine box_event ?hg (N := 1) ?hd (cs := #[.int .i64 a0_0, .slice A0_1 l0_1.length c0_1]) (t := 36) ?hr ?_; (case hd => rfl); (case hg => rfl); (case hr => first | (go_simp; done) | (go_simp; rfl)); intro gb hg w8 hbox hb; have n0_ := Aside0.mk (below_step (by repeat (first | exact HB.out | apply pw_below_drewN)) hb); have n1_ := Aside0.mk hbox; have hcz0 : w8.cell? ⟨gb, 0, none⟩ = some (.int .i64 a0_0) := (blk_cell n1_.out 0).trans rfl; have hcz1 : w8.cell? ⟨gb, 1, none⟩ = some (.slice A0_1 l0_1.length c0_1) := (blk_cell n1_.out 1).trans rfl; clear HB; have HB := n0_; have BK1 := n1_; clear n0_ n1_ hb hbox hg) | (go_at_call 33; (with_reducible refine (impl_isHidden.calls a0_0 false _ Ax.out).mono ?_); rintro e w' ⟨rfl, ⟨nd, rfl⟩⟩))
  go_ret
  exact ⟨by first | rfl | simp, by repeat (first | exact HB.out | apply pw_below_drewN)⟩
 | true =>
  replace H : (if (l0_1.length : Int) ≤ 6 then ((impl_isPuzzle_has.f k a0_0 l0_1).bind fun t3 => (some (!t3))) else (some false)) = some r := by simpa using H
  by_cases c6 : (l0_1.length : Int) ≤ 6
  ·rw [if_pos c6] at H
   have c6b0 : decide ((l0_1.length : Int) ≤ 6) = true := decide_eq_true c6
   have c6b1 : decide (l0_1.length ≤ 6) = true := decide_eq_true (by omega)
   clear c6
   replace H := Option.bind_eq_some_iff.mp H
   obtain ⟨t3, A0', H⟩ := H
   have Az := Aside0.mk A0'
   clear A0'
   obtain rfl := Option.some.inj H
   clear H
   go_enter Tryd.func21, Tryd.ntmps21
   go_wp2_with (first | ((with_reducible refine gate_dst (N := 1) rfl ?_); refine box_event ?hg (N := 1) ?hd (cs := #[.int .i64 a0_0, .slice A0_1 l0_1.length c0_1]) (t := 36) ?hr ?_; (case hd => rfl); (case hg => rfl); (case hr => first | (go_simp; done) | (go_simp; rfl)); intro gb hg w8 hbox hb; have n0_ := Aside0.mk (below_step (by repeat (first | exact HB.out | apply pw_below_drewN)) hb); have n1_ := Aside0.mk hbox; have hcz0 : w8.cell? ⟨gb, 0, none⟩ = some (.int .i64 a0_0) := (blk_cell n1_.out 0).trans rfl; have hcz1 : w8.cell? ⟨gb, 1, none⟩ = some (.slice A0_1 l0_1.length c0_1) := (blk_cell n1_.out 1).trans rfl; clear HB; have HB := n0_; have BK1 := n1_; clear n0_ n1_ hb hbox hg) | (go_at_call 33; (with_reducible refine (impl_isHidden.calls a0_0 true _ Ax.out).mono ?_); rintro e w' ⟨rfl, ⟨nd, rfl⟩⟩) | (go_at_call 34; (refine (impl_isPuzzle_has.calls k gb a0_0 A0_1 c0_1 l0_1 t3 _ (Kd.C_below HR1.out (by repeat (first | exact HB.out | apply pw_below_drewN))) HC1.out (by first | exact hcz0 | (go_simp; done)) Az.out).mono ?_); rintro e w' ⟨rfl, hb⟩; have n0_ := Aside0.mk (below_step (by repeat (first | exact HB.out | apply pw_below_drewN)) hb); clear HB; have HB := n0_; clear n0_ hb))
   go_ret
   exact ⟨by first | rfl | simp, by repeat (first | exact HB.out | apply pw_below_drewN)⟩
  ·rw [if_neg c6] at H
   have c6b0 : decide ((l0_1.length : Int) ≤ 6) = false := decide_eq_false c6
   have c6b1 : decide (l0_1.length ≤ 6) = false := decide_eq_false (by omega)
   clear c6
   obtain rfl := Option.some.inj H
   clear H
   go_enter Tryd.func21, Tryd.ntmps21
   go_wp2_with (first | ((with_reducible refine gate_dst (N := 1) rfl ?_); refine box_event ?hg (N := 1) ?hd (cs := #[.int .i64 a0_0, .slice A0_1 l0_1.length c0_1]) (t := 36) ?hr ?_; (case hd => rfl); (case hg => rfl); (case hr => first | (go_simp; done) | (go_simp; rfl)); intro gb hg w8 hbox hb; have n0_ := Aside0.mk (below_step (by repeat (first | exact HB.out | apply pw_below_drewN)) hb); have n1_ := Aside0.mk hbox; have hcz0 : w8.cell? ⟨gb, 0, none⟩ = some (.int .i64 a0_0) := (blk_cell n1_.out 0).trans rfl; have hcz1 : w8.cell? ⟨gb, 1, none⟩ = some (.slice A0_1 l0_1.length c0_1) := (blk_cell n1_.out 1).trans rfl; clear HB; have HB := n0_; have BK1 := n1_; clear n0_ n1_ hb hbox hg) | (go_at_call 33; (with_reducible refine (impl_isHidden.calls a0_0 true _ Ax.out).mono ?_); rintro e w' ⟨rfl, ⟨nd, rfl⟩⟩))
   go_ret
   exact ⟨by first | rfl | simp, by repeat (first | exact HB.out | apply pw_below_drewN)⟩

/-! ### strconv_Itoa: function 29 -/
def strconv_Itoa.f (a0 : Int) : Option ByteArray := if 0 ≤ a0 ∧ a0 < 100 then some ⟨(Lib.decDigits a0.toNat).toArray⟩ else none
theorem strconv_Itoa.calls (a0 : Int) (r : ByteArray) (w : World) (h : strconv_Itoa.f a0 = some r) :
  Calls Tryd.prog 29 #[.int .i64 a0] w fun e w' => e = .returned (.string r) ∧ Below w.heap.size w w' := by
 unfold strconv_Itoa.f at h
 split at h
 ·next hc =>
  obtain rfl := Option.some.inj h
  obtain ⟨i, rfl⟩ : ∃ i : Nat, a0 = i := ⟨a0.toNat, by omega⟩
  have c : Calls Tryd.prog 29 #[.int .i64 (i : Int)] w _ := Any.strconv_Itoa_small Tryd.lays171 i (by omega) w
  exact c.mono fun e w' ⟨h1, h2⟩ => ⟨by rw [h1, Int.toNat_natCast], h2 ▸ Below.refl _ _⟩
 ·cases h

/-! ### strings_Join: function 37 -/
def strings_Join.f (l0 : List ByteArray) (a1 : ByteArray) : Option ByteArray := if l0.length ≤ 140737488355328 ∧ (Lib.join (l0.map (·.data.toList)) a1.data.toList).length ≤ 140737488355328 then some ⟨(Lib.join (l0.map (·.data.toList)) a1.data.toList).toArray⟩ else none
theorem strings_Join_plain {α : Type} {d : Kd α} {e : Nat} {w : World} {base : Nat} {ok : Nat → Prop} {A : Option Addr} {n c : Nat} {xs : List α} (h : d.R e w base ok (.slice A n c) xs) : A = none ∨ ∃ g, A = some ⟨g, 0, none⟩ := by
  obtain ⟨_, inner, ho, _⟩ := h
  rcases ho.2 with ⟨h1, _⟩ | ⟨g, cap, cur, h1, _⟩
  · injection h1 with h1 _ _; exact .inl h1
  · injection h1 with h1 _ _; exact .inr ⟨g, h1⟩
theorem strings_Join.calls (A0 : Option Addr) (c0 : Nat) (l0 : List ByteArray) (a1 : ByteArray) (r : ByteArray) (w : World) (hr0 : Kd.C Kd.string w A0 l0.length l0) (hc0 : l0.length ≤ c0) (hp0 : A0 = none ∨ ∃ g, A0 = some ⟨g, 0, none⟩) (h : strings_Join.f l0 a1 = some r) :
  Calls Tryd.prog 37 #[.slice A0 l0.length c0, .string a1] w fun e w' => e = .returned (.string r) ∧ Below w.heap.size w w' := by
 unfold strings_Join.f at h
 split at h
 ·next hc =>
  obtain rfl := Option.some.inj h
  by_cases h0 : l0 = []
  ·subst h0
   have c : Calls Tryd.prog 37 #[.slice A0 0 c0, .string a1] w _ := Any.strings_Join_none Tryd.lays156 Tryd.Builder_Extra_156 A0 c0 a1 w
   exact c.mono fun e w' ⟨h1, h2⟩ => ⟨by rw [h1]; rfl, h2 ▸ Below.refl _ _⟩
  ·have hpos := List.length_pos_iff.2 h0
   have hlt := Kd.at_string hr0 0 (by omega) (by omega)
   rcases hp0 with rfl | ⟨g, rfl⟩
   ·obtain ⟨ad, e0, _⟩ := hlt
    cases e0
   ·have hcells : ∀ (j : Nat) x, l0[j]? = some x → w.cell? ⟨g, 0 + j, none⟩ = some (.string x) := by
     intro j x hj
     have hjl := (List.getElem?_eq_some_iff.1 hj).1
     obtain ⟨ad, e0, hx⟩ := Kd.at_string hr0 (j : Int) (by omega) (by omega)
     injection e0 with e0
     subst e0
     have ea : (⟨g, 0, none⟩ : Addr).add (j : Int).toNat = ⟨g, 0 + j, none⟩ := by
      unfold Addr.add
      rw [Int.toNat_natCast]
      split
      ·next hz => subst hz; rfl
      ·rfl
     rw [ea] at hx
     rw [hx]
     simp [rdOf, hj]
    exact Any.strings_Join Tryd.lays156 Tryd.Builder_Extra_156 g 0 c0 l0 a1 w hcells (World.block_lt_of_cell? w _ (hcells 0 _ (List.getElem?_eq_getElem hpos))) hc.1 hc0 hc.2
 ·cases h

end Go.Proofs.YtonnpncccjpmaaaDoor.PFnExactPuzzleText
