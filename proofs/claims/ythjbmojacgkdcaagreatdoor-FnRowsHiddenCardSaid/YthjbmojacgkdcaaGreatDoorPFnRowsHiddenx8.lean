-- Laid by xprint, a program of this session that runs over the kit's print.
import Derived.Test.YthjbmojacgkdcaaGreatDoorPFnRowsHiddenx7
namespace Go.Proofs.YthjbmojacgkdcaaGreatDoor.PFnRowsHidden
open Go.RowKit Go.Proofs.YthjbmojacgkdcaaGreatDoorW.PrintWords Go.Proofs.YthjbmojacgkdcaaGreatDoorW.PrintLast Go.Proofs.YthjbmojacgkdcaaGreatDoorW.PrintMore Go.Proofs.YthjbmojacgkdcaaGreatDoor.Sq
attribute [local go_sem] max2_int min2_int max_two min_two max_three min_three max_four min_four   -- for this text's walks alone
set_option linter.unusedVariables false
set_option linter.unusedSimpArgs false

attribute [local go_sem high] eqA37
/-! ### impl_isClue: function 48 -/
def impl_isClue.f (a0 : Int) (a1_0 : Int) (a1_1 : Int) (a1_2 : Int) (a1_3 : Int) : Option (Bool) := (impl_isHidden.f a0).bind fun t246 => (if t246 = true then (if a1_0 = 0 then ((impl_in.f a1_1 0 (wrap64 (a0 - 1))).bind fun t247 => (if t247 = true then ((impl_in.f a1_2 0 20).bind fun t248 => (if t248 = true then ((impl_in.f a1_3 0 1).bind fun t249 => (some t249)) else (some false))) else (some false))) else (if a1_0 = 1 then (if a1_1 = 0 then (if a1_2 = 0 then ((impl_in.f a1_3 0 a0).bind fun t250 => (some t250)) else (some false)) else (some false)) else (if a1_0 = 2 then (if a1_1 = 0 then (if a1_2 = 0 then ((impl_in.f a1_3 0 20).bind fun t251 => (some t251)) else (some false)) else (some false)) else (if a1_0 = 3 then (if a1_1 = 0 then (if a1_2 = 0 then ((impl_in.f a1_3 0 8).bind fun t252 => (some t252)) else (some false)) else (some false)) else (if a1_0 = 4 then ((impl_in.f a1_1 0 (wrap64 (a0 - 1))).bind fun t253 => (if t253 = true then (if a1_2 = 0 then ((impl_in.f a1_3 0 20).bind fun t254 => (some t254)) else (some false)) else (some false))) else (some false)))))) else (some false))
set_option maxHeartbeats 8000000 in
set_option maxRecDepth 100000 in
theorem impl_isClue.calls (a0 : Int) (a1_0 : Int) (a1_1 : Int) (a1_2 : Int) (a1_3 : Int) (r : Bool) (w : World) (h : impl_isClue.f a0 a1_0 a1_1 a1_2 a1_3 = some r) :
  Calls Tryz.prog 48 #[.int .i64 a0, .agg #[.int .i64 a1_0, .int .i64 a1_1, .int .i64 a1_2, .int .i64 a1_3]] w fun e w' => e = .returned (.bool r) ∧ Below w.heap.size w w' := by
 have hu37 := Tryz.underlying37
 have HB := Aside0.mk (Below.refl w.heap.size w)
 unfold impl_isClue.f at h
 have H := h
 clear h
 obtain ⟨t246, A3, H⟩ := ob H
 (try dsimp only at H)
 by_cases c4 : t246 = true
 ·subst c4
  rw [if_pos rfl] at H
  by_cases c5 : a1_0 = 0
  ·rw [if_pos c5] at H
   have c5b0 : (a1_0 == 0) = true := beq_iff_eq.mpr c5
   have c5b1 : (a1_0 != 0) = false := bne_eq_false_iff_eq.mpr c5
   clear c5
   obtain ⟨t247, A6, H⟩ := ob H
   (try dsimp only at H)
   go_enter Tryz.func48, Tryz.ntmps48
   go_wp2_with (first | ((with_reducible refine gd 3 ?_); refine bx 3 37 #[.int .i64 a1_0, .int .i64 a1_1, .int .i64 a1_2, .int .i64 a1_3] ?_; intro gb245 hg w11 hbox hb; have BK245 := hbox; have GW245 := gs hg; have GE245 := gs hg; replace HB := bs hb; clear hb hbox hg) | ((with_reducible refine gc 39 ?_); refine gl (some 6) Tryz.func39 #[.int .i64 a0] ?_; (with_reducible refine (impl_isHidden.calls a0 true _ A3.out).mono ?_); rintro e w' ⟨rfl, ⟨nd, rfl⟩⟩; refine ⟨_, rfl, ?_⟩; obtain ⟨hcz12_0, hcz12_1, hcz12_2, hcz12_3, hfz12_0, hfz12_1, hfz12_2, hfz12_3⟩ := z4 BK245; refine halt ?_))
   by_cases c7 : t247 = true
   ·subst c7
    rw [if_pos rfl] at H
    obtain ⟨t248, A8, H⟩ := ob H
    (try dsimp only at H)
    refine Aside0.mk ?_
    try go_wp2_with (((with_reducible refine gc 40 ?_); refine gl (some 16) Tryz.func40 #[.int .i64 a1_1, .int .i64 0, .int .i64 (wrap64 (a0 - 1))] ?_; (with_reducible refine (impl_in.calls a1_1 0 (wrap64 (a0 - 1)) true _ A6.out).mono ?_); rintro e w' ⟨rfl, ⟨nd, rfl⟩⟩; refine ⟨_, rfl, ?_⟩; refine halt ?_))
    by_cases c9 : t248 = true
    ·subst c9
     rw [if_pos rfl] at H
     obtain ⟨t249, A10, H⟩ := ob H
     (try dsimp only at H)
     obtain rfl := Option.some.inj H
     refine Aside0.mk ?_
     try go_wp2_with (first | (go_at_call 40; (with_reducible refine (impl_in.calls a1_2 0 20 true _ A8.out).mono ?_); rintro e w' ⟨rfl, ⟨nd, rfl⟩⟩) | (go_at_call 40; (with_reducible refine (impl_in.calls a1_3 0 1 t249 _ A10.out).mono ?_); rintro e w' ⟨rfl, ⟨nd, rfl⟩⟩))
     go_ret
     exact ⟨rs, bw⟩
    replace c9 := Bool.eq_false_iff.mpr c9
    subst c9
    rw [if_neg (show ¬ (false = true) by decide)] at H
    obtain rfl := Option.some.inj H
    refine Aside0.mk ?_
    try go_wp2_with ((go_at_call 40; (with_reducible refine (impl_in.calls a1_2 0 20 false _ A8.out).mono ?_); rintro e w' ⟨rfl, ⟨nd, rfl⟩⟩))
    go_ret
    exact ⟨rs, bw⟩
   replace c7 := Bool.eq_false_iff.mpr c7
   subst c7
   rw [if_neg (show ¬ (false = true) by decide)] at H
   obtain rfl := Option.some.inj H
   refine Aside0.mk ?_
   try go_wp2_with (((with_reducible refine gc 40 ?_); refine gl (some 16) Tryz.func40 #[.int .i64 a1_1, .int .i64 0, .int .i64 (wrap64 (a0 - 1))] ?_; (with_reducible refine (impl_in.calls a1_1 0 (wrap64 (a0 - 1)) false _ A6.out).mono ?_); rintro e w' ⟨rfl, ⟨nd, rfl⟩⟩; refine ⟨_, rfl, ?_⟩))
   go_ret
   exact ⟨rs, bw⟩
  rw [if_neg c5] at H
  have c5b0 : (a1_0 == 0) = false := beq_eq_false_iff_ne.mpr c5
  have c5b1 : (a1_0 != 0) = true := bne_iff_ne.mpr c5
  by_cases c17 : a1_0 = 1
  ·rw [if_pos c17] at H
   have c17b0 : (a1_0 == 1) = true := beq_iff_eq.mpr c17
   have c17b1 : (a1_0 != 1) = false := bne_eq_false_iff_eq.mpr c17
   clear c17
   go_enter Tryz.func48, Tryz.ntmps48
   go_wp2_with (((with_reducible refine gd 3 ?_); refine bx 3 37 #[.int .i64 a1_0, .int .i64 a1_1, .int .i64 a1_2, .int .i64 a1_3] ?_; intro gb245 hg w21 hbox hb; have BK245 := hbox; have GW245 := gs hg; have GE245 := gs hg; replace HB := bs hb; clear hb hbox hg; refine halt ?_))
   by_cases c18 : a1_1 = 0
   ·rw [if_pos c18] at H
    have c18b0 : (a1_1 == 0) = true := beq_iff_eq.mpr c18
    have c18b1 : (a1_1 != 0) = false := bne_eq_false_iff_eq.mpr c18
    clear c18
    refine Aside0.mk ?_
    try go_wp2_with (((with_reducible refine gc 39 ?_); refine gl (some 6) Tryz.func39 #[.int .i64 a0] ?_; (with_reducible refine (impl_isHidden.calls a0 true _ A3.out).mono ?_); rintro e w' ⟨rfl, ⟨nd, rfl⟩⟩; refine ⟨_, rfl, ?_⟩; have hz22 := z4 BK245; refine halt ?_))
    by_cases c19 : a1_2 = 0
    ·rw [if_pos c19] at H
     have c19b0 : (a1_2 == 0) = true := beq_iff_eq.mpr c19
     have c19b1 : (a1_2 != 0) = false := bne_eq_false_iff_eq.mpr c19
     clear c19
     obtain ⟨t250, A20, H⟩ := ob H
     (try dsimp only at H)
     obtain rfl := Option.some.inj H
     refine Aside0.mk ?_
     try go_wp2_with ((go_at_call 40; (with_reducible refine (impl_in.calls a1_3 0 a0 t250 _ A20.out).mono ?_); rintro e w' ⟨rfl, ⟨nd, rfl⟩⟩))
     go_ret
     exact ⟨rs, bw⟩
    rw [if_neg c19] at H
    have c19b0 : (a1_2 == 0) = false := beq_eq_false_iff_ne.mpr c19
    have c19b1 : (a1_2 != 0) = true := bne_iff_ne.mpr c19
    obtain rfl := Option.some.inj H
    refine Aside0.mk ?_
    try go_wp2
    go_ret
    exact ⟨rs, bw⟩
   rw [if_neg c18] at H
   have c18b0 : (a1_1 == 0) = false := beq_eq_false_iff_ne.mpr c18
   have c18b1 : (a1_1 != 0) = true := bne_iff_ne.mpr c18
   obtain rfl := Option.some.inj H
   refine Aside0.mk ?_
   try go_wp2_with (((with_reducible refine gc 39 ?_); refine gl (some 6) Tryz.func39 #[.int .i64 a0] ?_; (with_reducible refine (impl_isHidden.calls a0 true _ A3.out).mono ?_); rintro e w' ⟨rfl, ⟨nd, rfl⟩⟩; refine ⟨_, rfl, ?_⟩; have hz26 := z4 BK245))
   go_ret
   exact ⟨rs, bw⟩
  rw [if_neg c17] at H
  have c17b0 : (a1_0 == 1) = false := beq_eq_false_iff_ne.mpr c17
  have c17b1 : (a1_0 != 1) = true := bne_iff_ne.mpr c17
  by_cases c27 : a1_0 = 2
  ·rw [if_pos c27] at H
   have c27b0 : (a1_0 == 2) = true := beq_iff_eq.mpr c27
   have c27b1 : (a1_0 != 2) = false := bne_eq_false_iff_eq.mpr c27
   clear c27
   go_enter Tryz.func48, Tryz.ntmps48
   go_wp2_with (((with_reducible refine gd 3 ?_); refine bx 3 37 #[.int .i64 a1_0, .int .i64 a1_1, .int .i64 a1_2, .int .i64 a1_3] ?_; intro gb245 hg w31 hbox hb; have BK245 := hbox; have GW245 := gs hg; have GE245 := gs hg; replace HB := bs hb; clear hb hbox hg; refine halt ?_))
   by_cases c28 : a1_1 = 0
   ·rw [if_pos c28] at H
    have c28b0 : (a1_1 == 0) = true := beq_iff_eq.mpr c28
    have c28b1 : (a1_1 != 0) = false := bne_eq_false_iff_eq.mpr c28
    clear c28
    refine Aside0.mk ?_
    try go_wp2_with (((with_reducible refine gc 39 ?_); refine gl (some 6) Tryz.func39 #[.int .i64 a0] ?_; (with_reducible refine (impl_isHidden.calls a0 true _ A3.out).mono ?_); rintro e w' ⟨rfl, ⟨nd, rfl⟩⟩; refine ⟨_, rfl, ?_⟩; have hz32 := z4 BK245; refine halt ?_))
    by_cases c29 : a1_2 = 0
    ·rw [if_pos c29] at H
     have c29b0 : (a1_2 == 0) = true := beq_iff_eq.mpr c29
     have c29b1 : (a1_2 != 0) = false := bne_eq_false_iff_eq.mpr c29
     clear c29
     obtain ⟨t251, A30, H⟩ := ob H
     (try dsimp only at H)
     obtain rfl := Option.some.inj H
     refine Aside0.mk ?_
     try go_wp2_with ((go_at_call 40; (with_reducible refine (impl_in.calls a1_3 0 20 t251 _ A30.out).mono ?_); rintro e w' ⟨rfl, ⟨nd, rfl⟩⟩))
     go_ret
     exact ⟨rs, bw⟩
    rw [if_neg c29] at H
    have c29b0 : (a1_2 == 0) = false := beq_eq_false_iff_ne.mpr c29
    have c29b1 : (a1_2 != 0) = true := bne_iff_ne.mpr c29
    obtain rfl := Option.some.inj H
    refine Aside0.mk ?_
    try go_wp2
    go_ret
    exact ⟨rs, bw⟩
   rw [if_neg c28] at H
   have c28b0 : (a1_1 == 0) = false := beq_eq_false_iff_ne.mpr c28
   have c28b1 : (a1_1 != 0) = true := bne_iff_ne.mpr c28
   obtain rfl := Option.some.inj H
   refine Aside0.mk ?_
   try go_wp2_with (((with_reducible refine gc 39 ?_); refine gl (some 6) Tryz.func39 #[.int .i64 a0] ?_; (with_reducible refine (impl_isHidden.calls a0 true _ A3.out).mono ?_); rintro e w' ⟨rfl, ⟨nd, rfl⟩⟩; refine ⟨_, rfl, ?_⟩; have hz36 := z4 BK245))
   go_ret
   exact ⟨rs, bw⟩
  rw [if_neg c27] at H
  have c27b0 : (a1_0 == 2) = false := beq_eq_false_iff_ne.mpr c27
  have c27b1 : (a1_0 != 2) = true := bne_iff_ne.mpr c27
  go_enter Tryz.func48, Tryz.ntmps48
  go_wp2_with (((with_reducible refine gd 3 ?_); refine bx 3 37 #[.int .i64 a1_0, .int .i64 a1_1, .int .i64 a1_2, .int .i64 a1_3] ?_; intro gb245 hg w41 hbox hb; have BK245 := hbox; have GW245 := gs hg; have GE245 := gs hg; replace HB := bs hb; clear hb hbox hg; refine halt ?_; refine halt ?_))
  by_cases c37 : a1_0 = 3
  ·rw [if_pos c37] at H
   have c37b0 : (a1_0 == 3) = true := beq_iff_eq.mpr c37
   have c37b1 : (a1_0 != 3) = false := bne_eq_false_iff_eq.mpr c37
   clear c37
   refine Aside0.mk ?_
   try go_wp2
   by_cases c38 : a1_1 = 0
   ·rw [if_pos c38] at H
    have c38b0 : (a1_1 == 0) = true := beq_iff_eq.mpr c38
    have c38b1 : (a1_1 != 0) = false := bne_eq_false_iff_eq.mpr c38
    clear c38
    refine Aside0.mk ?_
    try go_wp2_with (((with_reducible refine gc 39 ?_); refine gl (some 6) Tryz.func39 #[.int .i64 a0] ?_; (with_reducible refine (impl_isHidden.calls a0 true _ A3.out).mono ?_); rintro e w' ⟨rfl, ⟨nd, rfl⟩⟩; refine ⟨_, rfl, ?_⟩; have hz42 := z4 BK245; refine halt ?_))
    by_cases c39 : a1_2 = 0
    ·rw [if_pos c39] at H
     have c39b0 : (a1_2 == 0) = true := beq_iff_eq.mpr c39
     have c39b1 : (a1_2 != 0) = false := bne_eq_false_iff_eq.mpr c39
     clear c39
     obtain ⟨t252, A40, H⟩ := ob H
     (try dsimp only at H)
     obtain rfl := Option.some.inj H
     refine Aside0.mk ?_
     try go_wp2_with ((go_at_call 40; (with_reducible refine (impl_in.calls a1_3 0 8 t252 _ A40.out).mono ?_); rintro e w' ⟨rfl, ⟨nd, rfl⟩⟩))
     go_ret
     exact ⟨rs, bw⟩
    rw [if_neg c39] at H
    have c39b0 : (a1_2 == 0) = false := beq_eq_false_iff_ne.mpr c39
    have c39b1 : (a1_2 != 0) = true := bne_iff_ne.mpr c39
    obtain rfl := Option.some.inj H
    refine Aside0.mk ?_
    try go_wp2
    go_ret
    exact ⟨rs, bw⟩
   rw [if_neg c38] at H
   have c38b0 : (a1_1 == 0) = false := beq_eq_false_iff_ne.mpr c38
   have c38b1 : (a1_1 != 0) = true := bne_iff_ne.mpr c38
   obtain rfl := Option.some.inj H
   refine Aside0.mk ?_
   try go_wp2_with (((with_reducible refine gc 39 ?_); refine gl (some 6) Tryz.func39 #[.int .i64 a0] ?_; (with_reducible refine (impl_isHidden.calls a0 true _ A3.out).mono ?_); rintro e w' ⟨rfl, ⟨nd, rfl⟩⟩; refine ⟨_, rfl, ?_⟩; have hz46 := z4 BK245))
   go_ret
   exact ⟨rs, bw⟩
  rw [if_neg c37] at H
  have c37b0 : (a1_0 == 3) = false := beq_eq_false_iff_ne.mpr c37
  have c37b1 : (a1_0 != 3) = true := bne_iff_ne.mpr c37
  refine Aside0.mk ?_
  try go_wp2
  by_cases c47 : a1_0 = 4
  ·rw [if_pos c47] at H
   have c47b0 : (a1_0 == 4) = true := beq_iff_eq.mpr c47
   have c47b1 : (a1_0 != 4) = false := bne_eq_false_iff_eq.mpr c47
   clear c47
   obtain ⟨t253, A48, H⟩ := ob H
   (try dsimp only at H)
   refine Aside0.mk ?_
   try go_wp2_with (((with_reducible refine gc 39 ?_); refine gl (some 6) Tryz.func39 #[.int .i64 a0] ?_; (with_reducible refine (impl_isHidden.calls a0 true _ A3.out).mono ?_); rintro e w' ⟨rfl, ⟨nd, rfl⟩⟩; refine ⟨_, rfl, ?_⟩; have hz53 := z4 BK245; refine halt ?_))
   by_cases c49 : t253 = true
   ·subst c49
    rw [if_pos rfl] at H
    refine Aside0.mk ?_
    try go_wp2_with (((with_reducible refine gc 40 ?_); refine gl (some 79) Tryz.func40 #[.int .i64 a1_1, .int .i64 0, .int .i64 (wrap64 (a0 - 1))] ?_; (with_reducible refine (impl_in.calls a1_1 0 (wrap64 (a0 - 1)) true _ A48.out).mono ?_); rintro e w' ⟨rfl, ⟨nd, rfl⟩⟩; refine ⟨_, rfl, ?_⟩; refine halt ?_))
    by_cases c50 : a1_2 = 0
    ·rw [if_pos c50] at H
     have c50b0 : (a1_2 == 0) = true := beq_iff_eq.mpr c50
     have c50b1 : (a1_2 != 0) = false := bne_eq_false_iff_eq.mpr c50
     clear c50
     obtain ⟨t254, A51, H⟩ := ob H
     (try dsimp only at H)
     obtain rfl := Option.some.inj H
     refine Aside0.mk ?_
     try go_wp2_with ((go_at_call 40; (with_reducible refine (impl_in.calls a1_3 0 20 t254 _ A51.out).mono ?_); rintro e w' ⟨rfl, ⟨nd, rfl⟩⟩))
     go_ret
     exact ⟨rs, bw⟩
    rw [if_neg c50] at H
    have c50b0 : (a1_2 == 0) = false := beq_eq_false_iff_ne.mpr c50
    have c50b1 : (a1_2 != 0) = true := bne_iff_ne.mpr c50
    obtain rfl := Option.some.inj H
    refine Aside0.mk ?_
    try go_wp2
    go_ret
    exact ⟨rs, bw⟩
   replace c49 := Bool.eq_false_iff.mpr c49
   subst c49
   rw [if_neg (show ¬ (false = true) by decide)] at H
   obtain rfl := Option.some.inj H
   refine Aside0.mk ?_
   try go_wp2_with (((with_reducible refine gc 40 ?_); refine gl (some 79) Tryz.func40 #[.int .i64 a1_1, .int .i64 0, .int .i64 (wrap64 (a0 - 1))] ?_; (with_reducible refine (impl_in.calls a1_1 0 (wrap64 (a0 - 1)) false _ A48.out).mono ?_); rintro e w' ⟨rfl, ⟨nd, rfl⟩⟩; refine ⟨_, rfl, ?_⟩))
   go_ret
   exact ⟨rs, bw⟩
  rw [if_neg c47] at H
  have c47b0 : (a1_0 == 4) = false := beq_eq_false_iff_ne.mpr c47
  have c47b1 : (a1_0 != 4) = true := bne_iff_ne.mpr c47
  obtain rfl := Option.some.inj H
  refine Aside0.mk ?_
  try go_wp2_with (((with_reducible refine gc 39 ?_); refine gl (some 6) Tryz.func39 #[.int .i64 a0] ?_; (with_reducible refine (impl_isHidden.calls a0 true _ A3.out).mono ?_); rintro e w' ⟨rfl, ⟨nd, rfl⟩⟩; refine ⟨_, rfl, ?_⟩; have hz59 := z4 BK245))
  go_ret
  exact ⟨rs, bw⟩
 replace c4 := Bool.eq_false_iff.mpr c4
 subst c4
 rw [if_neg (show ¬ (false = true) by decide)] at H
 obtain rfl := Option.some.inj H
 go_enter Tryz.func48, Tryz.ntmps48
 go_wp2_with (first | ((with_reducible refine gd 3 ?_); refine bx 3 37 #[.int .i64 a1_0, .int .i64 a1_1, .int .i64 a1_2, .int .i64 a1_3] ?_; intro gb245 hg w60 hbox hb; have BK245 := hbox; have GW245 := gs hg; have GE245 := gs hg; replace HB := bs hb; clear hb hbox hg) | ((with_reducible refine gc 39 ?_); refine gl (some 6) Tryz.func39 #[.int .i64 a0] ?_; (with_reducible refine (impl_isHidden.calls a0 false _ A3.out).mono ?_); rintro e w' ⟨rfl, ⟨nd, rfl⟩⟩; refine ⟨_, rfl, ?_⟩))
 go_ret
 exact ⟨rs, bw⟩

/-! ### impl_Clue_fits: function 49 -/
def impl_Clue_fits.f (k : Nat) (a0_0 : Int) (a0_1 : Int) (a0_2 : Int) (a0_3 : Int) (a1 : ByteArray) : Option (Bool) := (impl_Clue_told.f k a0_0 a0_1 a0_2 a0_3 a1).bind fun bt256 => (some (bt256.1 == a0_0 && (bt256.2.1 == a0_1 && (bt256.2.2.1 == a0_2 && (bt256.2.2.2 == a0_3)))))
theorem impl_Clue_fits.mono : ∀ a0 a1 a2 a3 a4 k, LeO (impl_Clue_fits.f k a0 a1 a2 a3 a4) (impl_Clue_fits.f (k + 1) a0 a1 a2 a3 a4) := by
  intro a0 a1 a2 a3 a4 k
  unfold impl_Clue_fits.f
  repeat' first
      | (with_reducible exact impl_Clue_told.mono _ _ _ _ _ _)
      | (with_reducible exact LeO.refl _)
      | (with_reducible exact LeO.none _)
      | (with_reducible refine LeO.ite ?_ ?_)
      | (with_reducible refine LeO.bind ?_ (fun _ => ?_))
      | exact impl_Clue_told.mono _ _ _ _ _ _
      | exact LeO.none _
      | refine LeO.ite ?_ ?_
      | refine LeO.bind ?_ (fun _ => ?_)
set_option maxHeartbeats 8000000 in
set_option maxRecDepth 100000 in
theorem impl_Clue_fits.calls (k : Nat) (a0_0 : Int) (a0_1 : Int) (a0_2 : Int) (a0_3 : Int) (a1 : ByteArray) (r : Bool) (w : World) (hm : Dr.Tab w) (h : impl_Clue_fits.f k a0_0 a0_1 a0_2 a0_3 a1 = some r) :
  Calls Tryz.prog 49 #[.agg #[.int .i64 a0_0, .int .i64 a0_1, .int .i64 a0_2, .int .i64 a0_3], .string a1] w fun e w' => e = .returned (.bool r) ∧ Below w.heap.size w w' := by
 have hu37 := Tryz.underlying37
 have HB := Aside0.mk (Below.refl w.heap.size w)
 have HMM := Aside0.mk hm
 clear hm
 unfold impl_Clue_fits.f at h
 have H := h
 clear h
 obtain ⟨⟨t256, t257, t258, t259⟩, A3, H⟩ := ob H
 (try dsimp only at H)
 obtain rfl := Option.some.inj H
 go_enter Tryz.func49, Tryz.ntmps49
 try go_wp2_with (first | ((with_reducible refine gd 2 ?_); refine bx 2 37 #[.int .i64 a0_0, .int .i64 a0_1, .int .i64 a0_2, .int .i64 a0_3] ?_; intro gb255 hg w4 hbox hb; have BK255 := hbox; have GW255 := gs hg; have GE255 := gs hg; replace HB := bs hb; clear hb hbox hg))
 replace BK255 := Aside0.mk (blk_drew BK255.out)
 replace HB := Aside0.mk (below_drew1 HB.out)
 refine start_ (n := 6) (S := fun w' => w'.cell? ⟨gb255, 0, none⟩ = some (.int .i64 a0_0) ∧ w'.cell? ⟨gb255, 1, none⟩ = some (.int .i64 a0_1) ∧ w'.cell? ⟨gb255, 2, none⟩ = some (.int .i64 a0_2) ∧ w'.cell? ⟨gb255, 3, none⟩ = some (.int .i64 a0_3)) (ds := []) (tb 6 0) (by kernel_rfl) rfl rfl ⟨ec BK255, ec BK255, ec BK255, ec BK255⟩ (fun hHeld => ?_)
 generalize w4.drew = w5 at BK255 HB hHeld ⊢
 refine pure_ (i := 1) (N := some 6) (v := ?_) (a' := ?_) (tb 6 2) rfl rfl (by kernel_rfl) (fun _ _ _ h => h) (Or.inl ⟨by rfl, ?_⟩) ?_ ?_
 rotate_left
 ·intro w'
  go_simp
  with_reducible rfl
 rotate_left
 ·simp only [Act.put, List.setIfInBounds_toArray, List.set_cons_zero, List.set_cons_succ, i64_w, i32_w]
  rfl
 refine take_ (i := 0) (N := some 5) (v := ?_) (a' := ?_) (tb 6 3) rfl rfl (by kernel_rfl) (fun _ _ _ h => h) (Or.inl ⟨by rfl, ?_⟩) hHeld ?_ ?_
 rotate_left
 ·rintro w' ⟨s0, s1, s2, s3⟩
  go_simp
  with_reducible rfl
 rotate_left
 ·simp only [Act.put, List.setIfInBounds_toArray, List.set_cons_zero, List.set_cons_succ, i64_w, i32_w]
  rfl
 refine take_ (i := 3) (N := some 8) (v := ?_) (a' := ?_) (tb 6 11) rfl rfl (by kernel_rfl) (fun _ _ _ h => h) (Or.inl ⟨by rfl, ?_⟩) hHeld ?_ ?_
 rotate_left
 ·rintro w' ⟨s0, s1, s2, s3⟩
  go_simp
  with_reducible rfl
 rotate_left
 ·simp only [Act.put, List.setIfInBounds_toArray, List.set_cons_zero, List.set_cons_succ, i64_w, i32_w]
  rfl
 refine one_ (i := 2) (N := some 7) (tb 6 15) rfl rfl (by kernel_rfl) (by decide) (fun K hK => ?_)
 refine go1 Tryz.func42 #[.agg #[.int .i64 a0_0, .int .i64 a0_1, .int .i64 a0_2, .int .i64 a0_3], .string a1] ?_
 with_reducible refine (impl_Clue_told.calls k a0_0 a0_1 a0_2 a0_3 a1 t256 t257 t258 t259 _ ?side1 A3.out).mono ?_
 (case side1 => exact Dr.mm HMM)
 rintro e w6 ⟨rfl, hb⟩
 refine ⟨_, rfl, ?_⟩
 replace BK255 := nk BK255 hb
 replace HB := bs hb
 (try clear hb)
 refine hK.out _ _ ⟨ec BK255, ec BK255, ec BK255, ec BK255⟩ (fun hHeld => ?_)
 clear hK K
 refine nm (some 7) ?_
 refine pure_ (i := 4) (N := some 9) (v := ?_) (a' := ?_) (tb 6 31) rfl rfl (by kernel_rfl) (fun _ _ _ h => h) (Or.inl ⟨by rfl, ?_⟩) ?_ ?_
 rotate_left
 ·intro w'
  go_simp
  with_reducible rfl
 rotate_left
 ·simp only [Act.put, List.setIfInBounds_toArray, List.set_cons_zero, List.set_cons_succ, i64_w, i32_w]
  rfl
 refine pure_ (i := 5) (N := some 4) (v := ?_) (a' := ?_) (tb 6 63) rfl rfl (by kernel_rfl) (fun _ _ _ h => h) (Or.inl ⟨by rfl, ?_⟩) ?_ ?_
 rotate_left
 ·intro w'
  go_simp
  with_reducible rfl
 rotate_left
 ·simp only [Act.put, List.setIfInBounds_toArray, List.set_cons_zero, List.set_cons_succ, i64_w, i32_w]
  rfl
 refine done_ (by kernel_rfl) ?_
 try go_wp2
 go_ret
 exact ⟨rs, bw⟩

/-! ### impl_DoesFit: function 10 -/
def impl_DoesFit.f (k : Nat) (a0_0 : Int) (a0_1 : Int) (a0_2 : Int) (a0_3 : Int) (a1 : ByteArray) : Option (Bool × Bool) := (impl_isRow.f a1).bind fun t261 => (if t261 = true then ((impl_isClue.f (a1.size : Int) a0_0 a0_1 a0_2 a0_3).bind fun t262 => (if t262 = true then ((impl_Clue_fits.f k a0_0 a0_1 a0_2 a0_3 a1).bind fun t263 => (some (t263, true))) else (some (false, false)))) else (some (false, false)))
theorem impl_DoesFit.mono : ∀ a0 a1 a2 a3 a4 k, LeO (impl_DoesFit.f k a0 a1 a2 a3 a4) (impl_DoesFit.f (k + 1) a0 a1 a2 a3 a4) := by
  intro a0 a1 a2 a3 a4 k
  unfold impl_DoesFit.f
  repeat' first
      | (with_reducible exact impl_Clue_fits.mono _ _ _ _ _ _)
      | (with_reducible exact LeO.refl _)
      | (with_reducible exact LeO.none _)
      | (with_reducible refine LeO.ite ?_ ?_)
      | (with_reducible refine LeO.bind ?_ (fun _ => ?_))
      | exact impl_Clue_fits.mono _ _ _ _ _ _
      | exact LeO.none _
      | refine LeO.ite ?_ ?_
      | refine LeO.bind ?_ (fun _ => ?_)
set_option maxHeartbeats 8000000 in
set_option maxRecDepth 100000 in
theorem impl_DoesFit.calls (k : Nat) (a0_0 : Int) (a0_1 : Int) (a0_2 : Int) (a0_3 : Int) (a1 : ByteArray) (r1 : Bool) (r2 : Bool) (w : World) (hm : Dr.Tab w) (h : impl_DoesFit.f k a0_0 a0_1 a0_2 a0_3 a1 = some (r1, r2)) :
  Calls Tryz.prog 10 #[.agg #[.int .i64 a0_0, .int .i64 a0_1, .int .i64 a0_2, .int .i64 a0_3], .string a1] w fun e w' => e = .returned (.tuple #[.bool r1, .bool r2]) ∧ Below w.heap.size w w' := by
 have hu37 := Tryz.underlying37
 have HB := Aside0.mk (Below.refl w.heap.size w)
 have HMM := Aside0.mk hm
 clear hm
 unfold impl_DoesFit.f at h
 have H := h
 clear h
 obtain ⟨t261, A3, H⟩ := ob H
 (try dsimp only at H)
 go_enter Tryz.func10, Tryz.ntmps10
 go_wp2_with (((with_reducible refine gd 2 ?_); (try (refine gate_guard (by rfl) ?_; dsimp only)); refine bx 2 37 #[.int .i64 a0_0, .int .i64 a0_1, .int .i64 a0_2, .int .i64 a0_3] ?_; intro gb260 hg w8 hbox hb; have BK260 := hbox; have GW260 := gs hg; have GE260 := gs hg; replace HB := bs hb; clear hb hbox hg; refine halt ?_))
 by_cases c4 : t261 = true
 ·subst c4
  rw [if_pos rfl] at H
  obtain ⟨t262, A5, H⟩ := ob H
  (try dsimp only at H)
  refine Aside0.mk ?_
  try go_wp2_with (((with_reducible refine gc 38 ?_); refine gl (some 7) Tryz.func38 #[.string a1] ?_; (with_reducible refine (impl_isRow.calls a1 true _ A3.out).mono ?_); rintro e w9 ⟨rfl, hb⟩; refine ⟨_, rfl, ?_⟩; replace BK260 := nk BK260 hb; replace HB := bs hb; (try clear hb); have hz10 := z4 BK260; refine halt ?_))
  by_cases c6 : t262 = true
  ·subst c6
   rw [if_pos rfl] at H
   obtain ⟨t263, A7, H⟩ := ob H
   (try dsimp only at H)
   simp only [Option.some.injEq, Prod.mk.injEq] at H
   obtain ⟨rfl, rfl⟩ := H
   refine Aside0.mk ?_
   try go_wp2_with (first | (go_at_call 48; (with_reducible refine (impl_isClue.calls (a1.size : Int) a0_0 a0_1 a0_2 a0_3 true _ A5.out).mono ?_); rintro e w11 ⟨rfl, hb⟩; replace BK260 := nk BK260 hb; replace HB := bs hb; (try clear hb); obtain ⟨hcz12_0, hcz12_1, hcz12_2, hcz12_3, hfz12_0, hfz12_1, hfz12_2, hfz12_3⟩ := z4 BK260) | ((with_reducible refine gc 49 ?_); refine gl (some 18) Tryz.func49 #[.agg #[.int .i64 a0_0, .int .i64 a0_1, .int .i64 a0_2, .int .i64 a0_3], .string a1] ?_; (with_reducible refine (impl_Clue_fits.calls k a0_0 a0_1 a0_2 a0_3 a1 t263 _ ?_ A7.out).mono ?_); exact Dr.mm HMM; rintro e w13 ⟨rfl, hb⟩; refine ⟨_, rfl, ?_⟩; replace HB := bs hb; (try clear hb)))
   go_ret2
   exact ⟨rs, bw⟩
  replace c6 := Bool.eq_false_iff.mpr c6
  subst c6
  rw [if_neg (show ¬ (false = true) by decide)] at H
  simp only [Option.some.injEq, Prod.mk.injEq] at H
  obtain ⟨rfl, rfl⟩ := H
  refine Aside0.mk ?_
  try go_wp2_with ((go_at_call 48; (with_reducible refine (impl_isClue.calls (a1.size : Int) a0_0 a0_1 a0_2 a0_3 false _ A5.out).mono ?_); rintro e w17 ⟨rfl, hb⟩; replace HB := bs hb; (try clear hb)))
  go_ret2
  exact ⟨rs, bw⟩
 replace c4 := Bool.eq_false_iff.mpr c4
 subst c4
 rw [if_neg (show ¬ (false = true) by decide)] at H
 simp only [Option.some.injEq, Prod.mk.injEq] at H
 obtain ⟨rfl, rfl⟩ := H
 refine Aside0.mk ?_
 try go_wp2_with (((with_reducible refine gc 38 ?_); refine gl (some 7) Tryz.func38 #[.string a1] ?_; (with_reducible refine (impl_isRow.calls a1 false _ A3.out).mono ?_); rintro e w19 ⟨rfl, hb⟩; refine ⟨_, rfl, ?_⟩; replace HB := bs hb; (try clear hb)))
 go_ret2
 exact ⟨rs, bw⟩

/-! ### impl_FacingPairs: function 11 -/
def impl_FacingPairs.f (k : Nat) (a0 : ByteArray) : Option (List Int × Bool) := (impl_isRow.f a0).bind fun t264 => (if t264 = true then ((impl_facing.f k a0).bind fun t265 => (some (t265, true))) else (some (([] : List Int), false)))
theorem impl_FacingPairs.mono : ∀ a0 k, LeO (impl_FacingPairs.f k a0) (impl_FacingPairs.f (k + 1) a0) := by
  intro a0 k
  unfold impl_FacingPairs.f
  repeat' first
      | (with_reducible exact impl_facing.mono _ _)
      | (with_reducible exact LeO.refl _)
      | (with_reducible exact LeO.none _)
      | (with_reducible refine LeO.ite ?_ ?_)
      | (with_reducible refine LeO.bind ?_ (fun _ => ?_))
      | exact impl_facing.mono _ _
      | exact LeO.none _
      | refine LeO.ite ?_ ?_
      | refine LeO.bind ?_ (fun _ => ?_)
set_option maxHeartbeats 8000000 in
set_option maxRecDepth 100000 in
theorem impl_FacingPairs.calls (k : Nat) (a0 : ByteArray) (r1 : List Int) (r2 : Bool) (w : World) (h : impl_FacingPairs.f k a0 = some (r1, r2)) :
  Calls Tryz.prog 11 #[.string a0] w fun e w' => ∃ v0_ : Value, e = .returned (.tuple #[v0_, .bool r2]) ∧ Kd.R (Kd.int .i64) 3 w' w.heap.size (fun _ => True) v0_ r1 ∧ Below w.heap.size w w' := by
 have HB := Aside0.mk (Below.refl w.heap.size w)
 unfold impl_FacingPairs.f at h
 have H := h
 clear h
 obtain ⟨t264, A2, H⟩ := ob H
 (try dsimp only at H)
 by_cases c3 : t264 = true
 ·subst c3
  rw [if_pos rfl] at H
  obtain ⟨t265, A4, H⟩ := ob H
  (try dsimp only at H)
  simp only [Option.some.injEq, Prod.mk.injEq] at H
  obtain ⟨rfl, rfl⟩ := H
  go_enter Tryz.func11, Tryz.ntmps11
  go_wp2_with (first | ((with_reducible refine gc 38 ?_); refine gl (some 5) Tryz.func38 #[.string a0] ?_; (with_reducible refine (impl_isRow.calls a0 true _ A2.out).mono ?_); rintro e w5 ⟨rfl, hb⟩; refine ⟨_, rfl, ?_⟩; replace HB := bs hb; (try clear hb)) | ((with_reducible refine gc 50 ?_); refine gl (some 8) Tryz.func50 #[.string a0] ?_; (with_reducible refine (impl_facing.calls k a0 t265 _ A4.out).mono ?_); rintro e w6 ⟨v266, rfl, ho0, hb⟩; refine ⟨_, rfl, ?_⟩; have HO267 := Aside0.mk (Kd.R_lower ho0 (below_size bw)); replace HB := bs hb; (try clear hb); (try clear ho0)))
  go_ret2
  exact ⟨_, rs, pr HO267, bw⟩
 replace c3 := Bool.eq_false_iff.mpr c3
 subst c3
 rw [if_neg (show ¬ (false = true) by decide)] at H
 simp only [Option.some.injEq, Prod.mk.injEq] at H
 obtain ⟨rfl, rfl⟩ := H
 go_enter Tryz.func11, Tryz.ntmps11
 go_wp2_with (first | ((with_reducible refine gc 38 ?_); refine gl (some 5) Tryz.func38 #[.string a0] ?_; (with_reducible refine (impl_isRow.calls a0 false _ A2.out).mono ?_); rintro e w7 ⟨rfl, hb⟩; refine ⟨_, rfl, ?_⟩; replace HB := bs hb; (try clear hb)))
 go_ret2
 exact ⟨_, rs, by first | exact Kd.R_nil _ _ _ _ _ | exact Kd.N_nil _ _ _ _ _ | exact Kd.V_nil _ _ _ _ _ | exact Kd.Q_nil _ _ _ _ _ | exact Kd.S_nil _ _ _ _ _, bw⟩

/-! ### impl_isPuzzle: function 53 -/
def impl_isPuzzle_clo.f (s0 : Int) (x0 : Int) (x1 : Int) (x2 : Int) (x3 : Int) : Option Bool := (impl_isClue.f s0 x0 x1 x2 x3).bind fun t => some (!t)
set_option maxHeartbeats 8000000 in
set_option maxRecDepth 100000 in
theorem impl_isPuzzle_clo.calls (g : Nat) (s0 : Int) (x0 : Int) (x1 : Int) (x2 : Int) (x3 : Int) (r : Bool) (w : World) (hg0 : w.cell? ⟨g, 0, none⟩ = some (.int .i64 s0)) (h : impl_isPuzzle_clo.f s0 x0 x1 x2 x3 = some r) :
  Calls Tryz.prog 75 (#[.agg #[.int .i64 x0, .int .i64 x1, .int .i64 x2, .int .i64 x3]] ++ #[.pointer (some ⟨g, 0, none⟩)]) w fun e w' => e = .returned (.bool r) ∧ Below w.heap.size w w' := by
 have hu := Tryz.underlying37
 have hu2 := Tryz.underlying28
 have HB := Aside0.mk (Below.refl w.heap.size w)
 have HG0 := Aside0.mk hg0
 clear hg0
 replace h := Option.bind_eq_some_iff.mp h
 obtain ⟨t, A0, H⟩ := h
 have A1 := Aside0.mk A0
 clear A0
 obtain rfl := Option.some.inj H
 clear H
 show Calls Tryz.prog 75 #[.agg #[.int .i64 x0, .int .i64 x1, .int .i64 x2, .int .i64 x3], .pointer (some ⟨g, 0, none⟩)] w _
 go_enter Tryz.func75, Tryz.ntmps75
 go_wp2_with (first | ((with_reducible refine gd 2 ?_); refine box_event ?hg (N := 2) ?hd (cs := #[.int .i64 x0, .int .i64 x1, .int .i64 x2, .int .i64 x3]) (t := 37) ?hr ?_; (case hd => rfl); (case hg => rfl); (case hr => first | (go_simp; done) | (go_simp; rfl)); intro gb hg w8 hbox hb; have n0_ := Aside0.mk (below_step (by repeat (first | exact HB.out | apply pw_below_drewN)) hb); have n1_ := Aside0.mk hbox; have hcg0 : w8.cell? ⟨g, 0, none⟩ = some (.int .i64 s0) := (hb.cell (World.block_lt_of_cell? w _ HG0.out)).trans HG0.out; have hcz0 : w8.cell? ⟨gb, 0, none⟩ = some (.int .i64 x0) := (blk_cell n1_.out 0).trans rfl; have hcz1 : w8.cell? ⟨gb, 1, none⟩ = some (.int .i64 x1) := (blk_cell n1_.out 1).trans rfl; have hcz2 : w8.cell? ⟨gb, 2, none⟩ = some (.int .i64 x2) := (blk_cell n1_.out 2).trans rfl; have hcz3 : w8.cell? ⟨gb, 3, none⟩ = some (.int .i64 x3) := (blk_cell n1_.out 3).trans rfl; clear HB; have HB := n0_; have BK1 := n1_; clear n0_ n1_ hb hbox hg) | (go_at_call 48; (with_reducible refine (impl_isClue.calls s0 x0 x1 x2 x3 t _ A1.out).mono ?_); rintro e w' ⟨rfl, hb⟩; have n0_ := Aside0.mk (below_step HB.out hb); clear HB; have HB := n0_; clear n0_ hb))
 go_ret
 exact ⟨by first | rfl | simp, by repeat (first | exact HB.out | apply pw_below_drewN)⟩
def impl_isPuzzle_idx.l0 : Nat → Int → List (S37) → Int → Option Int
  | 0, _, _, _ => none
  | k + 1, s0, l, i => if i < (l.length : Int) then (if 0 ≤ i then ((impl_isPuzzle_clo.f s0 (rd_T37 l i).f0 (rd_T37 l i).f1 (rd_T37 l i).f2 (rd_T37 l i).f3).bind fun t => (if t = true then (some i) else (impl_isPuzzle_idx.l0 k s0 l (wrap64 (i + 1))))) else none) else (some (-1))
theorem impl_isPuzzle_idx.mono_l : ∀ k, (∀ y0 y1 y2, LeO (impl_isPuzzle_idx.l0 k y0 y1 y2) (impl_isPuzzle_idx.l0 (k + 1) y0 y1 y2))
  | 0 => fun _ _ _ r h => by simp [impl_isPuzzle_idx.l0] at h
  | k + 1 => by
    have ih0 := impl_isPuzzle_idx.mono_l k
    · intro y0 y1 y2
      unfold impl_isPuzzle_idx.l0
      repeat' first
      | (with_reducible exact ih0 _ _ _)
      | (with_reducible exact LeO.refl _)
      | (with_reducible exact LeO.none _)
      | (with_reducible refine LeO.ite ?_ ?_)
      | (with_reducible refine LeO.bind ?_ (fun _ => ?_))
set_option maxHeartbeats 8000000 in
set_option maxRecDepth 100000 in
theorem impl_isPuzzle_idx.calls (k : Nat) (g : Nat) (s0 : Int) (A0 : Option Addr) (c0 : Nat) (l0 : List (S37)) (r : Int) (w : World) (hr0 : Kd.C k37 w A0 l0.length l0) (hc0 : l0.length ≤ c0) (hg0 : w.cell? ⟨g, 0, none⟩ = some (.int .i64 s0)) (h : impl_isPuzzle_idx.l0 k s0 l0 0 = some r) :
  Calls Tryz.prog 97 #[.slice A0 l0.length c0, .func (.func 75) #[] #[.pointer (some ⟨g, 0, none⟩)]] w fun e w' => e = .returned (.int .i64 r) ∧ Below w.heap.size w w' := by
 have hu := Tryz.underlying37
 have HR0 := Aside0.mk hr0
 have HC0 := Aside0.mk hc0
 clear hr0 hc0
 have HG0 := Aside0.mk hg0
 clear hg0
 have HB := Aside0.mk (Below.refl w.heap.size w)
 have H' := Aside0.mk h
 clear h
 go_enter Tryz.func97, Tryz.ntmps97
 go_wp2
 go_loopg [8] k (fun kq v8 w' => ∃ (x8 : Int), v8 = .int .i64 x8 ∧ Aside0 (impl_isPuzzle_idx.l0 kq s0 l0 x8 = some r) ∧ Aside0 (kq ≤ k) ∧ Aside0 (Below w.heap.size w w'))
 case atStart => exact ⟨(0), (rs), H', ⟨Nat.le_refl _⟩, HB⟩
 case round =>
  clear H' HB
  obtain ⟨x8, rfl, HA, HK1, HB⟩ := hrel
  cases gk with
  | zero => exact absurd HA.out (by simp [impl_isPuzzle_idx.l0])
  | succ k1 =>
   have H := HA.out
   clear HA
   simp only [impl_isPuzzle_idx.l0] at H
   by_cases c4 : x8 < (l0.length : Int)
   ·rw [if_pos c4] at H
    have c4b0 := decide_eq_true c4
    obtain ⟨c5, H⟩ := oi H
    have c5b0 := decide_eq_true c5
    replace H := Option.bind_eq_some_iff.mp H
    obtain ⟨t1, A0', H⟩ := H
    have A1 := Aside0.mk A0'
    clear A0'
    obtain ⟨ad, e1, hx0, hx1, hx2, hx3⟩ := at_T37 HR0.out x8 c5 c4
    cases e1
    replace hx0 := (HB.out.cell (World.block_lt_of_cell? w _ hx0)).trans hx0
    replace hx1 := (HB.out.cell (World.block_lt_of_cell? w _ hx1)).trans hx1
    replace hx2 := (HB.out.cell (World.block_lt_of_cell? w _ hx2)).trans hx2
    replace hx3 := (HB.out.cell (World.block_lt_of_cell? w _ hx3)).trans hx3
    have p1 := eq_true c5
    have q1 := eq_true c4
    clear c4 c5
    cases t1 with
    | true =>
     obtain rfl := Option.some.inj H
     clear H
     go_wp2_with (((with_reducible refine gd 16 ?_); refine Fv.goesV_ (some 16) rfl rfl Tryz.func75 (by kernel_rfl) rfl #[.agg #[.int .i64 (rd_T37 l0 x8).f0, .int .i64 (rd_T37 l0 x8).f1, .int .i64 (rd_T37 l0 x8).f2, .int .i64 (rd_T37 l0 x8).f3]] rfl (by first | rfl | (go_simp; done)) (by first | rfl | (go_simp; done)) ?_; (refine (impl_isPuzzle_clo.calls g s0  _ _ _ _ _ _ ((HB.out.cell (World.block_lt_of_cell? w _ HG0.out)).trans HG0.out) A1.out).mono ?_); rintro e w' ⟨rfl, hb⟩; refine ⟨_, rfl, ?_⟩; have n0_ := Aside0.mk (below_step HB.out hb); clear HB; have HB := n0_; clear n0_ hb))
     go_ret
     exact ⟨by first | rfl | simp, HB.out⟩
    | false =>
     have H' := Aside0.mk (show impl_isPuzzle_idx.l0 k1 s0 l0 (wrap64 (x8 + 1)) = some r from by simpa using H)
     clear H
     go_wp2_with (((with_reducible refine gd 16 ?_); refine Fv.goesV_ (some 16) rfl rfl Tryz.func75 (by kernel_rfl) rfl #[.agg #[.int .i64 (rd_T37 l0 x8).f0, .int .i64 (rd_T37 l0 x8).f1, .int .i64 (rd_T37 l0 x8).f2, .int .i64 (rd_T37 l0 x8).f3]] rfl (by first | rfl | (go_simp; done)) (by first | rfl | (go_simp; done)) ?_; (refine (impl_isPuzzle_clo.calls g s0  _ _ _ _ _ _ ((HB.out.cell (World.block_lt_of_cell? w _ HG0.out)).trans HG0.out) A1.out).mono ?_); rintro e w' ⟨rfl, hb⟩; refine ⟨_, rfl, ?_⟩; have n0_ := Aside0.mk (below_step HB.out hb); clear HB; have HB := n0_; clear n0_ hb))
     go_roundg k1
     case measure => have := HK1.out; omega
     case rel => exact ⟨(wrap64 (x8 + 1)), (rs), H', ⟨by have := HK1.out; omega⟩, HB⟩
   rw [if_neg c4] at H
   have c4b0 := decide_eq_false c4
   clear c4
   obtain rfl := Option.some.inj H
   clear H
   go_wp2
   go_ret
   exact ⟨by first | rfl | simp, HB.out⟩
def impl_isPuzzle_has.f (k : Nat) (s0 : Int) (l : List (S37)) : Option Bool := (impl_isPuzzle_idx.l0 k s0 l 0).bind fun i => some (decide (0 ≤ i))
theorem impl_isPuzzle_has.mono : ∀ s0 a0 k, LeO (impl_isPuzzle_has.f k s0 a0) (impl_isPuzzle_has.f (k + 1) s0 a0) := by
  intro s0 a0 k
  unfold impl_isPuzzle_has.f
  repeat' first
      | (with_reducible exact impl_isPuzzle_idx.mono_l k _ _ _)
      | (with_reducible exact LeO.refl _)
      | (with_reducible exact LeO.none _)
      | (with_reducible refine LeO.ite ?_ ?_)
      | (with_reducible refine LeO.bind ?_ (fun _ => ?_))
set_option maxHeartbeats 8000000 in
set_option maxRecDepth 100000 in
theorem impl_isPuzzle_has.calls (k : Nat) (g : Nat) (s0 : Int) (A0 : Option Addr) (c0 : Nat) (l0 : List (S37)) (r : Bool) (w : World) (hr0 : Kd.C k37 w A0 l0.length l0) (hc0 : l0.length ≤ c0) (hg0 : w.cell? ⟨g, 0, none⟩ = some (.int .i64 s0)) (h : impl_isPuzzle_has.f k s0 l0 = some r) :
  Calls Tryz.prog 74 #[.slice A0 l0.length c0, .func (.func 75) #[] #[.pointer (some ⟨g, 0, none⟩)]] w fun e w' => e = .returned (.bool r) ∧ Below w.heap.size w w' := by
 have HR0 := Aside0.mk hr0
 have HC0 := Aside0.mk hc0
 clear hr0 hc0
 have HG0 := Aside0.mk hg0
 clear hg0
 have HB := Aside0.mk (Below.refl w.heap.size w)
 replace h := Option.bind_eq_some_iff.mp h
 obtain ⟨t, A0', H⟩ := h
 have A1 := Aside0.mk A0'
 clear A0'
 obtain rfl := Option.some.inj H
 clear H
 go_enter Tryz.func74, Tryz.ntmps74
 go_wp2_with (go_at_call 97; (refine (impl_isPuzzle_idx.calls k g s0 A0 c0 l0 t _ HR0.out HC0.out HG0.out A1.out).mono ?_); rintro e w' ⟨rfl, hb⟩; have n0_ := Aside0.mk (below_step HB.out hb); clear HB; have HB := n0_; clear n0_ hb)
 go_ret
 exact ⟨by first | rfl | simp, HB.out⟩
def impl_isPuzzle.f (k : Nat) (a0_0 : Int) (l0_1 : List S37) : Option Bool := (impl_isHidden.f a0_0).bind fun t1 => (if t1 = true then (if (l0_1.length : Int) ≤ 6 then ((impl_isPuzzle_has.f k a0_0 l0_1).bind fun t3 => (some (!t3))) else (some false)) else (some false))
theorem impl_isPuzzle.mono : ∀ a0 a1 k, LeO (impl_isPuzzle.f k a0 a1) (impl_isPuzzle.f (k + 1) a0 a1) := by
  intro a0 a1 k
  unfold impl_isPuzzle.f
  repeat' first
      | (with_reducible exact impl_isPuzzle_has.mono _ _ k)
      | (with_reducible exact LeO.refl _)
      | (with_reducible exact LeO.none _)
      | (with_reducible refine LeO.ite ?_ ?_)
      | (with_reducible refine LeO.bind ?_ (fun _ => ?_))
set_option maxHeartbeats 8000000 in
set_option maxRecDepth 100000 in
theorem impl_isPuzzle.calls (k : Nat) (a0_0 : Int) (A0_1 : Option Addr) (c0_1 : Nat) (l0_1 : List (S37)) (r : Bool) (w : World) (hr0_1 : Kd.C k37 w A0_1 l0_1.length l0_1) (hc0_1 : l0_1.length ≤ c0_1) (h : impl_isPuzzle.f k a0_0 l0_1 = some r) :
  Calls Tryz.prog 53 #[.agg #[.int .i64 a0_0, .slice A0_1 l0_1.length c0_1]] w fun e w' => e = .returned (.bool r) ∧ Below w.heap.size w w' := by
 have hu := Tryz.underlying28
 have HR1 := Aside0.mk hr0_1
 have HC1 := Aside0.mk hc0_1
 clear hr0_1 hc0_1
 have HB := Aside0.mk (Below.refl w.heap.size w)
 replace h := Option.bind_eq_some_iff.mp h
 obtain ⟨t1, A0', H⟩ := h
 have Ax := Aside0.mk A0'
 clear A0'
 cases t1 with
 | false =>
  obtain rfl := Option.some.inj (show (some false) = some r from by simpa using H)
  clear H
  go_enter Tryz.func53, Tryz.ntmps53
  go_wp2_with (first | ((with_reducible refine gd 1 ?_); refine box_event ?hg (N := 1) ?hd (cs := #[.int .i64 a0_0, .slice A0_1 l0_1.length c0_1]) (t := 28) ?hr ?_; (case hd => rfl); (case hg => rfl); (case hr => first | (go_simp; done) | (go_simp; rfl)); intro gb hg w8 hbox hb; have n0_ := Aside0.mk (below_step (by repeat (first | exact HB.out | apply pw_below_drewN)) hb); have n1_ := Aside0.mk hbox; have hcz0 : w8.cell? ⟨gb, 0, none⟩ = some (.int .i64 a0_0) := (blk_cell n1_.out 0).trans rfl; have hcz1 : w8.cell? ⟨gb, 1, none⟩ = some (.slice A0_1 l0_1.length c0_1) := (blk_cell n1_.out 1).trans rfl; clear HB; have HB := n0_; have BK1 := n1_; clear n0_ n1_ hb hbox hg) | (go_at_call 39; (with_reducible refine (impl_isHidden.calls a0_0 false _ Ax.out).mono ?_); rintro e w' ⟨rfl, ⟨nd, rfl⟩⟩))
  go_ret
  exact ⟨by first | rfl | simp, by repeat (first | exact HB.out | apply pw_below_drewN)⟩
 | true =>
  replace H : (if (l0_1.length : Int) ≤ 6 then ((impl_isPuzzle_has.f k a0_0 l0_1).bind fun t3 => (some (!t3))) else (some false)) = some r := by simpa using H
  go_enter Tryz.func53, Tryz.ntmps53
  go_wp2_with (first | ((with_reducible refine gd 1 ?_); refine box_event ?hg (N := 1) ?hd (cs := #[.int .i64 a0_0, .slice A0_1 l0_1.length c0_1]) (t := 28) ?hr ?_; (case hd => rfl); (case hg => rfl); (case hr => first | (go_simp; done) | (go_simp; rfl)); intro gb hg w8 hbox hb; have n0_ := Aside0.mk (below_step (by repeat (first | exact HB.out | apply pw_below_drewN)) hb); have n1_ := Aside0.mk hbox; have hcz0 : w8.cell? ⟨gb, 0, none⟩ = some (.int .i64 a0_0) := (blk_cell n1_.out 0).trans rfl; have hcz1 : w8.cell? ⟨gb, 1, none⟩ = some (.slice A0_1 l0_1.length c0_1) := (blk_cell n1_.out 1).trans rfl; clear HB; have HB := n0_; have BK1 := n1_; clear n0_ n1_ hb hbox hg) | (go_at_call 39; (with_reducible refine (impl_isHidden.calls a0_0 true _ Ax.out).mono ?_); rintro e w' ⟨rfl, ⟨nd, rfl⟩⟩; refine halt ?_))
  by_cases c6 : (l0_1.length : Int) ≤ 6
  ·rw [if_pos c6] at H
   have c6b0 := decide_eq_true c6
   have c6b1 : decide (l0_1.length ≤ 6) = true := decide_eq_true (by omega)
   clear c6
   replace H := Option.bind_eq_some_iff.mp H
   obtain ⟨t3, A0', H⟩ := H
   have Az := Aside0.mk A0'
   clear A0'
   obtain rfl := Option.some.inj H
   clear H
   refine Aside0.mk ?_
   try go_wp2_with ((go_at_call 74; (refine (impl_isPuzzle_has.calls k gb a0_0 A0_1 c0_1 l0_1 t3 _ (Kd.C_below HR1.out (by repeat (first | exact HB.out | apply pw_below_drewN))) HC1.out (by first | exact hcz0 | (go_simp; done)) Az.out).mono ?_); rintro e w' ⟨rfl, hb⟩; have n0_ := Aside0.mk (below_step (by repeat (first | exact HB.out | apply pw_below_drewN)) hb); clear HB; have HB := n0_; clear n0_ hb))
   go_ret
   exact ⟨by first | rfl | simp, by repeat (first | exact HB.out | apply pw_below_drewN)⟩
  rw [if_neg c6] at H
  have c6b0 := decide_eq_false c6
  have c6b1 : decide (l0_1.length ≤ 6) = false := decide_eq_false (by omega)
  clear c6
  obtain rfl := Option.some.inj H
  clear H
  refine Aside0.mk ?_
  try go_wp2
  go_ret
  exact ⟨by first | rfl | simp, by repeat (first | exact HB.out | apply pw_below_drewN)⟩

/-! ### impl_IsPuzzle: function 13 -/
def impl_IsPuzzle.f (k : Nat) (a0_0 : Int) (l0_1 : List (S37)) : Option (Bool) := (impl_isPuzzle.f k a0_0 l0_1).bind fun t269 => (some t269)
theorem impl_IsPuzzle.mono : ∀ a0 a1 k, LeO (impl_IsPuzzle.f k a0 a1) (impl_IsPuzzle.f (k + 1) a0 a1) := by
  intro a0 a1 k
  unfold impl_IsPuzzle.f
  repeat' first
      | (with_reducible exact impl_isPuzzle.mono _ _ _)
      | (with_reducible exact LeO.refl _)
      | (with_reducible exact LeO.none _)
      | (with_reducible refine LeO.ite ?_ ?_)
      | (with_reducible refine LeO.bind ?_ (fun _ => ?_))
      | exact impl_isPuzzle.mono _ _ _
      | exact LeO.none _
      | refine LeO.ite ?_ ?_
      | refine LeO.bind ?_ (fun _ => ?_)
set_option maxHeartbeats 8000000 in
set_option maxRecDepth 100000 in
theorem impl_IsPuzzle.calls (k : Nat) (a0_0 : Int) (A0_1 : Option Addr) (c0_1 : Nat) (l0_1 : List (S37)) (r : Bool) (w : World) (hr0_1 : Kd.C k37 w A0_1 l0_1.length l0_1) (hc0_1 : l0_1.length ≤ c0_1) (h : impl_IsPuzzle.f k a0_0 l0_1 = some r) :
  Calls Tryz.prog 13 #[.agg #[.int .i64 a0_0, .slice A0_1 l0_1.length c0_1]] w fun e w' => e = .returned (.bool r) ∧ Below w.heap.size w w' := by
 have hu28 := Tryz.underlying28
 have HR0_1 := Aside0.mk hr0_1
 have HC0_1 := Aside0.mk hc0_1
 clear hr0_1 hc0_1
 have HB := Aside0.mk (Below.refl w.heap.size w)
 unfold impl_IsPuzzle.f at h
 have H := h
 clear h
 obtain ⟨t269, A2, H⟩ := ob H
 (try dsimp only at H)
 obtain rfl := Option.some.inj H
 go_enter Tryz.func13, Tryz.ntmps13
 go_wp2_with (first | ((with_reducible refine gd 1 ?_); refine bx 1 28 #[.int .i64 a0_0, .slice A0_1 l0_1.length c0_1] ?_; intro gb268 hg w3 hbox hb; have BK268 := hbox; have GW268 := gs hg; have GE268 := gs hg; replace HB := bs hb; clear hb hbox hg; have hz4 := z2 BK268) | ((with_reducible refine gc 53 ?_); refine gl (some 4) Tryz.func53 #[.agg #[.int .i64 a0_0, .slice A0_1 l0_1.length c0_1]] ?_; (with_reducible refine (impl_isPuzzle.calls k a0_0 _ _ l0_1 t269 _ ?_ ?_ A2.out).mono ?_); exact cb HR0_1; exact HC0_1.out; rintro e w5 ⟨rfl, hb⟩; refine ⟨_, rfl, ?_⟩; replace HB := bs hb; (try clear hb)))
 go_ret
 exact ⟨rs, bw⟩

end Go.Proofs.YthjbmojacgkdcaaGreatDoor.PFnRowsHidden
