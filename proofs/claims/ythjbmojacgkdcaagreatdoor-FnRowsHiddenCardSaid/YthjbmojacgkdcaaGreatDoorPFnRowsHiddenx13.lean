-- Laid by xprint, a program of this session that runs over the kit's print.
import Derived.Test.YthjbmojacgkdcaaGreatDoorPFnRowsHiddenx12
namespace Go.Proofs.YthjbmojacgkdcaaGreatDoor.PFnRowsHidden
open Go.RowKit Go.Proofs.YthjbmojacgkdcaaGreatDoorW.PrintWords Go.Proofs.YthjbmojacgkdcaaGreatDoorW.PrintLast Go.Proofs.YthjbmojacgkdcaaGreatDoorW.PrintMore Go.Proofs.YthjbmojacgkdcaaGreatDoor.Sq
attribute [local go_sem] max2_int min2_int max_two min_two max_three min_three max_four min_four   -- for this text's walks alone
set_option linter.unusedVariables false
set_option linter.unusedSimpArgs false

/-! ### spec_pzClue: function 65 -/
def spec_pzClue.f (a0 : Int) (a1_0 : Int) (a1_1 : Int) (a1_2 : Int) (a1_3 : Int) : Option (Bool) := if a1_0 = 0 then ((spec_l1In.f a1_1 0 (wrap64 (a0 - 1))).bind fun t417 => (if t417 = true then ((spec_l1In.f a1_2 0 20).bind fun t418 => (if t418 = true then ((spec_l1In.f a1_3 0 1).bind fun t419 => (some t419)) else (some false))) else (some false))) else (if a1_0 = 1 then (if a1_1 = 0 then (if a1_2 = 0 then ((spec_l1In.f a1_3 0 a0).bind fun t420 => (some t420)) else (some false)) else (some false)) else (if a1_0 = 2 then (if a1_1 = 0 then (if a1_2 = 0 then ((spec_l1In.f a1_3 0 20).bind fun t421 => (some t421)) else (some false)) else (some false)) else (if a1_0 = 3 then (if a1_1 = 0 then (if a1_2 = 0 then ((spec_l1In.f a1_3 0 8).bind fun t422 => (some t422)) else (some false)) else (some false)) else (if a1_0 = 4 then ((spec_l1In.f a1_1 0 (wrap64 (a0 - 1))).bind fun t423 => (if t423 = true then (if a1_2 = 0 then ((spec_l1In.f a1_3 0 20).bind fun t424 => (some t424)) else (some false)) else (some false))) else (some false)))))
set_option maxHeartbeats 8000000 in
set_option maxRecDepth 100000 in
theorem spec_pzClue.calls (a0 : Int) (a1_0 : Int) (a1_1 : Int) (a1_2 : Int) (a1_3 : Int) (r : Bool) (w : World) (h : spec_pzClue.f a0 a1_0 a1_1 a1_2 a1_3 = some r) :
  Calls Tryz.prog 65 #[.int .i64 a0, .agg #[.int .i64 a1_0, .int .i64 a1_1, .int .i64 a1_2, .int .i64 a1_3]] w fun e w' => e = .returned (.bool r) ∧ Below w.heap.size w w' := by
 have hu37 := Tryz.underlying37
 have HB := Aside0.mk (Below.refl w.heap.size w)
 unfold spec_pzClue.f at h
 have H := h
 clear h
 by_cases c3 : a1_0 = 0
 ·rw [if_pos c3] at H
  have c3b0 : (a1_0 == 0) = true := beq_iff_eq.mpr c3
  have c3b1 : (a1_0 != 0) = false := bne_eq_false_iff_eq.mpr c3
  clear c3
  obtain ⟨t417, A4, H⟩ := ob H
  (try dsimp only at H)
  go_enter Tryz.func65, Tryz.ntmps65
  go_wp2_with (((with_reducible refine gd 3 ?_); refine bx 3 37 #[.int .i64 a1_0, .int .i64 a1_1, .int .i64 a1_2, .int .i64 a1_3] ?_; intro gb416 hg w9 hbox hb; have BK416 := hbox; have GW416 := gs hg; have GE416 := gs hg; replace HB := bs hb; clear hb hbox hg; have hz10 := z4 BK416; refine halt ?_))
  by_cases c5 : t417 = true
  ·subst c5
   rw [if_pos rfl] at H
   obtain ⟨t418, A6, H⟩ := ob H
   (try dsimp only at H)
   refine Aside0.mk ?_
   try go_wp2_with (((with_reducible refine gc 44 ?_); refine gl (some 13) Tryz.func44 #[.int .i64 a1_1, .int .i64 0, .int .i64 (wrap64 (a0 - 1))] ?_; (with_reducible refine (spec_l1In.calls a1_1 0 (wrap64 (a0 - 1)) true _ A4.out).mono ?_); rintro e w' ⟨rfl, ⟨nd, rfl⟩⟩; refine ⟨_, rfl, ?_⟩; refine halt ?_))
   by_cases c7 : t418 = true
   ·subst c7
    rw [if_pos rfl] at H
    obtain ⟨t419, A8, H⟩ := ob H
    (try dsimp only at H)
    obtain rfl := Option.some.inj H
    refine Aside0.mk ?_
    try go_wp2_with (first | (go_at_call 44; (with_reducible refine (spec_l1In.calls a1_2 0 20 true _ A6.out).mono ?_); rintro e w' ⟨rfl, ⟨nd, rfl⟩⟩) | (go_at_call 44; (with_reducible refine (spec_l1In.calls a1_3 0 1 t419 _ A8.out).mono ?_); rintro e w' ⟨rfl, ⟨nd, rfl⟩⟩))
    go_ret
    exact ⟨rs, bw⟩
   replace c7 := Bool.eq_false_iff.mpr c7
   subst c7
   rw [if_neg (show ¬ (false = true) by decide)] at H
   obtain rfl := Option.some.inj H
   refine Aside0.mk ?_
   try go_wp2_with ((go_at_call 44; (with_reducible refine (spec_l1In.calls a1_2 0 20 false _ A6.out).mono ?_); rintro e w' ⟨rfl, ⟨nd, rfl⟩⟩))
   go_ret
   exact ⟨rs, bw⟩
  replace c5 := Bool.eq_false_iff.mpr c5
  subst c5
  rw [if_neg (show ¬ (false = true) by decide)] at H
  obtain rfl := Option.some.inj H
  refine Aside0.mk ?_
  try go_wp2_with (((with_reducible refine gc 44 ?_); refine gl (some 13) Tryz.func44 #[.int .i64 a1_1, .int .i64 0, .int .i64 (wrap64 (a0 - 1))] ?_; (with_reducible refine (spec_l1In.calls a1_1 0 (wrap64 (a0 - 1)) false _ A4.out).mono ?_); rintro e w' ⟨rfl, ⟨nd, rfl⟩⟩; refine ⟨_, rfl, ?_⟩))
  go_ret
  exact ⟨rs, bw⟩
 rw [if_neg c3] at H
 have c3b0 : (a1_0 == 0) = false := beq_eq_false_iff_ne.mpr c3
 have c3b1 : (a1_0 != 0) = true := bne_iff_ne.mpr c3
 by_cases c15 : a1_0 = 1
 ·rw [if_pos c15] at H
  have c15b0 : (a1_0 == 1) = true := beq_iff_eq.mpr c15
  have c15b1 : (a1_0 != 1) = false := bne_eq_false_iff_eq.mpr c15
  clear c15
  by_cases c16 : a1_1 = 0
  ·rw [if_pos c16] at H
   have c16b0 : (a1_1 == 0) = true := beq_iff_eq.mpr c16
   have c16b1 : (a1_1 != 0) = false := bne_eq_false_iff_eq.mpr c16
   clear c16
   go_enter Tryz.func65, Tryz.ntmps65
   go_wp2_with (((with_reducible refine gd 3 ?_); refine bx 3 37 #[.int .i64 a1_0, .int .i64 a1_1, .int .i64 a1_2, .int .i64 a1_3] ?_; intro gb416 hg w19 hbox hb; have BK416 := hbox; have GW416 := gs hg; have GE416 := gs hg; replace HB := bs hb; clear hb hbox hg; have hz20 := z4 BK416; refine halt ?_))
   by_cases c17 : a1_2 = 0
   ·rw [if_pos c17] at H
    have c17b0 : (a1_2 == 0) = true := beq_iff_eq.mpr c17
    have c17b1 : (a1_2 != 0) = false := bne_eq_false_iff_eq.mpr c17
    clear c17
    obtain ⟨t420, A18, H⟩ := ob H
    (try dsimp only at H)
    obtain rfl := Option.some.inj H
    refine Aside0.mk ?_
    try go_wp2_with ((go_at_call 44; (with_reducible refine (spec_l1In.calls a1_3 0 a0 t420 _ A18.out).mono ?_); rintro e w' ⟨rfl, ⟨nd, rfl⟩⟩))
    go_ret
    exact ⟨rs, bw⟩
   rw [if_neg c17] at H
   have c17b0 : (a1_2 == 0) = false := beq_eq_false_iff_ne.mpr c17
   have c17b1 : (a1_2 != 0) = true := bne_iff_ne.mpr c17
   obtain rfl := Option.some.inj H
   refine Aside0.mk ?_
   try go_wp2
   go_ret
   exact ⟨rs, bw⟩
  rw [if_neg c16] at H
  have c16b0 : (a1_1 == 0) = false := beq_eq_false_iff_ne.mpr c16
  have c16b1 : (a1_1 != 0) = true := bne_iff_ne.mpr c16
  obtain rfl := Option.some.inj H
  go_enter Tryz.func65, Tryz.ntmps65
  go_wp2_with (first | ((with_reducible refine gd 3 ?_); refine bx 3 37 #[.int .i64 a1_0, .int .i64 a1_1, .int .i64 a1_2, .int .i64 a1_3] ?_; intro gb416 hg w23 hbox hb; have BK416 := hbox; have GW416 := gs hg; have GE416 := gs hg; replace HB := bs hb; clear hb hbox hg; have hz24 := z4 BK416))
  go_ret
  exact ⟨rs, bw⟩
 rw [if_neg c15] at H
 have c15b0 : (a1_0 == 1) = false := beq_eq_false_iff_ne.mpr c15
 have c15b1 : (a1_0 != 1) = true := bne_iff_ne.mpr c15
 by_cases c25 : a1_0 = 2
 ·rw [if_pos c25] at H
  have c25b0 : (a1_0 == 2) = true := beq_iff_eq.mpr c25
  have c25b1 : (a1_0 != 2) = false := bne_eq_false_iff_eq.mpr c25
  clear c25
  by_cases c26 : a1_1 = 0
  ·rw [if_pos c26] at H
   have c26b0 : (a1_1 == 0) = true := beq_iff_eq.mpr c26
   have c26b1 : (a1_1 != 0) = false := bne_eq_false_iff_eq.mpr c26
   clear c26
   go_enter Tryz.func65, Tryz.ntmps65
   go_wp2_with (((with_reducible refine gd 3 ?_); refine bx 3 37 #[.int .i64 a1_0, .int .i64 a1_1, .int .i64 a1_2, .int .i64 a1_3] ?_; intro gb416 hg w29 hbox hb; have BK416 := hbox; have GW416 := gs hg; have GE416 := gs hg; replace HB := bs hb; clear hb hbox hg; have hz30 := z4 BK416; refine halt ?_))
   by_cases c27 : a1_2 = 0
   ·rw [if_pos c27] at H
    have c27b0 : (a1_2 == 0) = true := beq_iff_eq.mpr c27
    have c27b1 : (a1_2 != 0) = false := bne_eq_false_iff_eq.mpr c27
    clear c27
    obtain ⟨t421, A28, H⟩ := ob H
    (try dsimp only at H)
    obtain rfl := Option.some.inj H
    refine Aside0.mk ?_
    try go_wp2_with ((go_at_call 44; (with_reducible refine (spec_l1In.calls a1_3 0 20 t421 _ A28.out).mono ?_); rintro e w' ⟨rfl, ⟨nd, rfl⟩⟩))
    go_ret
    exact ⟨rs, bw⟩
   rw [if_neg c27] at H
   have c27b0 : (a1_2 == 0) = false := beq_eq_false_iff_ne.mpr c27
   have c27b1 : (a1_2 != 0) = true := bne_iff_ne.mpr c27
   obtain rfl := Option.some.inj H
   refine Aside0.mk ?_
   try go_wp2
   go_ret
   exact ⟨rs, bw⟩
  rw [if_neg c26] at H
  have c26b0 : (a1_1 == 0) = false := beq_eq_false_iff_ne.mpr c26
  have c26b1 : (a1_1 != 0) = true := bne_iff_ne.mpr c26
  obtain rfl := Option.some.inj H
  go_enter Tryz.func65, Tryz.ntmps65
  go_wp2_with (first | ((with_reducible refine gd 3 ?_); refine bx 3 37 #[.int .i64 a1_0, .int .i64 a1_1, .int .i64 a1_2, .int .i64 a1_3] ?_; intro gb416 hg w33 hbox hb; have BK416 := hbox; have GW416 := gs hg; have GE416 := gs hg; replace HB := bs hb; clear hb hbox hg; have hz34 := z4 BK416))
  go_ret
  exact ⟨rs, bw⟩
 rw [if_neg c25] at H
 have c25b0 : (a1_0 == 2) = false := beq_eq_false_iff_ne.mpr c25
 have c25b1 : (a1_0 != 2) = true := bne_iff_ne.mpr c25
 by_cases c35 : a1_0 = 3
 ·rw [if_pos c35] at H
  have c35b0 : (a1_0 == 3) = true := beq_iff_eq.mpr c35
  have c35b1 : (a1_0 != 3) = false := bne_eq_false_iff_eq.mpr c35
  clear c35
  by_cases c36 : a1_1 = 0
  ·rw [if_pos c36] at H
   have c36b0 : (a1_1 == 0) = true := beq_iff_eq.mpr c36
   have c36b1 : (a1_1 != 0) = false := bne_eq_false_iff_eq.mpr c36
   clear c36
   go_enter Tryz.func65, Tryz.ntmps65
   go_wp2_with (((with_reducible refine gd 3 ?_); refine bx 3 37 #[.int .i64 a1_0, .int .i64 a1_1, .int .i64 a1_2, .int .i64 a1_3] ?_; intro gb416 hg w39 hbox hb; have BK416 := hbox; have GW416 := gs hg; have GE416 := gs hg; replace HB := bs hb; clear hb hbox hg; have hz40 := z4 BK416; refine halt ?_))
   by_cases c37 : a1_2 = 0
   ·rw [if_pos c37] at H
    have c37b0 : (a1_2 == 0) = true := beq_iff_eq.mpr c37
    have c37b1 : (a1_2 != 0) = false := bne_eq_false_iff_eq.mpr c37
    clear c37
    obtain ⟨t422, A38, H⟩ := ob H
    (try dsimp only at H)
    obtain rfl := Option.some.inj H
    refine Aside0.mk ?_
    try go_wp2_with ((go_at_call 44; (with_reducible refine (spec_l1In.calls a1_3 0 8 t422 _ A38.out).mono ?_); rintro e w' ⟨rfl, ⟨nd, rfl⟩⟩))
    go_ret
    exact ⟨rs, bw⟩
   rw [if_neg c37] at H
   have c37b0 : (a1_2 == 0) = false := beq_eq_false_iff_ne.mpr c37
   have c37b1 : (a1_2 != 0) = true := bne_iff_ne.mpr c37
   obtain rfl := Option.some.inj H
   refine Aside0.mk ?_
   try go_wp2
   go_ret
   exact ⟨rs, bw⟩
  rw [if_neg c36] at H
  have c36b0 : (a1_1 == 0) = false := beq_eq_false_iff_ne.mpr c36
  have c36b1 : (a1_1 != 0) = true := bne_iff_ne.mpr c36
  obtain rfl := Option.some.inj H
  go_enter Tryz.func65, Tryz.ntmps65
  go_wp2_with (first | ((with_reducible refine gd 3 ?_); refine bx 3 37 #[.int .i64 a1_0, .int .i64 a1_1, .int .i64 a1_2, .int .i64 a1_3] ?_; intro gb416 hg w43 hbox hb; have BK416 := hbox; have GW416 := gs hg; have GE416 := gs hg; replace HB := bs hb; clear hb hbox hg; have hz44 := z4 BK416))
  go_ret
  exact ⟨rs, bw⟩
 rw [if_neg c35] at H
 have c35b0 : (a1_0 == 3) = false := beq_eq_false_iff_ne.mpr c35
 have c35b1 : (a1_0 != 3) = true := bne_iff_ne.mpr c35
 by_cases c45 : a1_0 = 4
 ·rw [if_pos c45] at H
  have c45b0 : (a1_0 == 4) = true := beq_iff_eq.mpr c45
  have c45b1 : (a1_0 != 4) = false := bne_eq_false_iff_eq.mpr c45
  clear c45
  obtain ⟨t423, A46, H⟩ := ob H
  (try dsimp only at H)
  go_enter Tryz.func65, Tryz.ntmps65
  go_wp2_with (((with_reducible refine gd 3 ?_); refine bx 3 37 #[.int .i64 a1_0, .int .i64 a1_1, .int .i64 a1_2, .int .i64 a1_3] ?_; intro gb416 hg w50 hbox hb; have BK416 := hbox; have GW416 := gs hg; have GE416 := gs hg; replace HB := bs hb; clear hb hbox hg; have hz51 := z4 BK416; refine halt ?_))
  by_cases c47 : t423 = true
  ·subst c47
   rw [if_pos rfl] at H
   refine Aside0.mk ?_
   try go_wp2_with (((with_reducible refine gc 44 ?_); refine gl (some 76) Tryz.func44 #[.int .i64 a1_1, .int .i64 0, .int .i64 (wrap64 (a0 - 1))] ?_; (with_reducible refine (spec_l1In.calls a1_1 0 (wrap64 (a0 - 1)) true _ A46.out).mono ?_); rintro e w' ⟨rfl, ⟨nd, rfl⟩⟩; refine ⟨_, rfl, ?_⟩; refine halt ?_))
   by_cases c48 : a1_2 = 0
   ·rw [if_pos c48] at H
    have c48b0 : (a1_2 == 0) = true := beq_iff_eq.mpr c48
    have c48b1 : (a1_2 != 0) = false := bne_eq_false_iff_eq.mpr c48
    clear c48
    obtain ⟨t424, A49, H⟩ := ob H
    (try dsimp only at H)
    obtain rfl := Option.some.inj H
    refine Aside0.mk ?_
    try go_wp2_with ((go_at_call 44; (with_reducible refine (spec_l1In.calls a1_3 0 20 t424 _ A49.out).mono ?_); rintro e w' ⟨rfl, ⟨nd, rfl⟩⟩))
    go_ret
    exact ⟨rs, bw⟩
   rw [if_neg c48] at H
   have c48b0 : (a1_2 == 0) = false := beq_eq_false_iff_ne.mpr c48
   have c48b1 : (a1_2 != 0) = true := bne_iff_ne.mpr c48
   obtain rfl := Option.some.inj H
   refine Aside0.mk ?_
   try go_wp2
   go_ret
   exact ⟨rs, bw⟩
  replace c47 := Bool.eq_false_iff.mpr c47
  subst c47
  rw [if_neg (show ¬ (false = true) by decide)] at H
  obtain rfl := Option.some.inj H
  refine Aside0.mk ?_
  try go_wp2_with (((with_reducible refine gc 44 ?_); refine gl (some 76) Tryz.func44 #[.int .i64 a1_1, .int .i64 0, .int .i64 (wrap64 (a0 - 1))] ?_; (with_reducible refine (spec_l1In.calls a1_1 0 (wrap64 (a0 - 1)) false _ A46.out).mono ?_); rintro e w' ⟨rfl, ⟨nd, rfl⟩⟩; refine ⟨_, rfl, ?_⟩))
  go_ret
  exact ⟨rs, bw⟩
 rw [if_neg c45] at H
 have c45b0 : (a1_0 == 4) = false := beq_eq_false_iff_ne.mpr c45
 have c45b1 : (a1_0 != 4) = true := bne_iff_ne.mpr c45
 obtain rfl := Option.some.inj H
 go_enter Tryz.func65, Tryz.ntmps65
 go_wp2_with (first | ((with_reducible refine gd 3 ?_); refine bx 3 37 #[.int .i64 a1_0, .int .i64 a1_1, .int .i64 a1_2, .int .i64 a1_3] ?_; intro gb416 hg w56 hbox hb; have BK416 := hbox; have GW416 := gs hg; have GE416 := gs hg; replace HB := bs hb; clear hb hbox hg; have hz57 := z4 BK416))
 go_ret
 exact ⟨rs, bw⟩

/-! ### spec_pzSoldiers: function 67 -/
def spec_pzSoldiers.f (a0 : Int) : Option (Bool) := (spec_l1In.f a0 1 8).bind fun t425 => (some t425)
set_option maxHeartbeats 8000000 in
set_option maxRecDepth 100000 in
theorem spec_pzSoldiers.calls (a0 : Int) (r : Bool) (w : World) (h : spec_pzSoldiers.f a0 = some r) :
  Calls Tryz.prog 67 #[.int .i64 a0] w fun e w' => e = .returned (.bool r) ∧ Drawn0 w w' := by
 unfold spec_pzSoldiers.f at h
 have H := h
 clear h
 obtain ⟨t425, A2, H⟩ := ob H
 (try dsimp only at H)
 obtain rfl := Option.some.inj H
 go_enter Tryz.func67, Tryz.ntmps67
 go_wp2_with (first | ((with_reducible refine gc 44 ?_); refine gl (some 4) Tryz.func44 #[.int .i64 a0, .int .i64 1, .int .i64 8] ?_; (with_reducible refine (spec_l1In.calls a0 1 8 t425 _ A2.out).mono ?_); rintro e w' ⟨rfl, ⟨nd, rfl⟩⟩; refine ⟨_, rfl, ?_⟩))
 go_ret
 exact ⟨rs, by repeat (first | exact Drawn0.refl _ | apply Drawn0.step)⟩

/-! ### spec_pzGood: function 61 -/
mutual
def spec_pzGood.j0 : Nat → Bool → Int → List (S37) → Option (Bool)
  | 0, _, _, _ => none
  | k + 1, x14, x427000, x427001 => if x14 = true then (some false) else (spec_pzGood.l0 k x427001 (x427001.length : Int) 0 x427000 x427001)
def spec_pzGood.l0 : Nat → List (S37) → Int → Int → Int → List (S37) → Option (Bool)
  | 0, _, _, _, _, _ => none
  | k + 1, x16, x17, x18, x427000, x427001 => if x18 < x17 then (if 0 ≤ x18 then (if x18 < (x16.length : Int) then ((spec_pzClue.f x427000 ((rd_T37 x16 x18).f0) ((rd_T37 x16 x18).f1) ((rd_T37 x16 x18).f2) ((rd_T37 x16 x18).f3)).bind fun t430 => (if t430 = true then (spec_pzGood.l0 k x16 x17 (wrap64 (x18 + 1)) x427000 x427001) else (some false))) else (none)) else (none)) else (some true)
end
def spec_pzGood.f (k : Nat) (a0_0 : Int) (l0_1 : List (S37)) : Option (Bool) := (spec_pzSoldiers.f a0_0).bind fun t427 => (if t427 = true then (spec_pzGood.j0 k (decide ((l0_1.length : Int) > 6)) a0_0 l0_1) else (spec_pzGood.j0 k true a0_0 l0_1))
theorem spec_pzGood.mono_l : ∀ k, (∀ y0 y1 y2, LeO (spec_pzGood.j0 k y0 y1 y2) (spec_pzGood.j0 (k + 1) y0 y1 y2)) ∧ (∀ y0 y1 y2 y3 y4, LeO (spec_pzGood.l0 k y0 y1 y2 y3 y4) (spec_pzGood.l0 (k + 1) y0 y1 y2 y3 y4))
  | 0 => ⟨fun _ _ _ r h => by simp [spec_pzGood.j0] at h, fun _ _ _ _ _ r h => by simp [spec_pzGood.l0] at h⟩
  | k + 1 => by
    obtain ⟨ih0, ih1⟩ := spec_pzGood.mono_l k
    refine ⟨?q0, ?q1⟩
    case' q0 => (intros; unfold spec_pzGood.j0)
    case' q1 => (intros; unfold spec_pzGood.l0)
    all_goals repeat' first
     | (with_reducible exact ih0 _ _ _)
     | (with_reducible exact ih1 _ _ _ _ _)
     | (with_reducible exact LeO.refl _)
     | (with_reducible exact LeO.none _)
     | (with_reducible refine LeO.ite ?_ ?_)
     | (with_reducible refine LeO.bind ?_ (fun _ => ?_))
     | exact ih0 _ _ _
     | exact ih1 _ _ _ _ _
     | exact LeO.none _
     | refine LeO.ite ?_ ?_
     | refine LeO.bind ?_ (fun _ => ?_)
theorem spec_pzGood.mono : ∀ a0 a1 k, LeO (spec_pzGood.f k a0 a1) (spec_pzGood.f (k + 1) a0 a1) := by
  intro a0 a1 k
  obtain ⟨ih0, ih1⟩ := spec_pzGood.mono_l k
  unfold spec_pzGood.f
  repeat' first
      | (with_reducible exact ih0 _ _ _)
      | (with_reducible exact ih1 _ _ _ _ _)
      | (with_reducible exact LeO.refl _)
      | (with_reducible exact LeO.none _)
      | (with_reducible refine LeO.ite ?_ ?_)
      | (with_reducible refine LeO.bind ?_ (fun _ => ?_))
      | exact ih0 _ _ _
      | exact ih1 _ _ _ _ _
      | exact LeO.none _
      | refine LeO.ite ?_ ?_
      | refine LeO.bind ?_ (fun _ => ?_)
set_option maxHeartbeats 8000000 in
set_option maxRecDepth 100000 in
theorem spec_pzGood.calls (k : Nat) (a0_0 : Int) (A0_1 : Option Addr) (c0_1 : Nat) (l0_1 : List (S37)) (r : Bool) (w : World) (hr0_1 : Kd.C k37 w A0_1 l0_1.length l0_1) (hc0_1 : l0_1.length ≤ c0_1) (h : spec_pzGood.f k a0_0 l0_1 = some r) :
  Calls Tryz.prog 61 #[.agg #[.int .i64 a0_0, .slice A0_1 l0_1.length c0_1]] w fun e w' => e = .returned (.bool r) ∧ Below w.heap.size w w' := by
 have hu28 := Tryz.underlying28
 have hu37 := Tryz.underlying37
 have HR0_1 := Aside0.mk hr0_1
 have HC0_1 := Aside0.mk hc0_1
 clear hr0_1 hc0_1
 have HB := Aside0.mk (Below.refl w.heap.size w)
 unfold spec_pzGood.f at h
 have H := h
 clear h
 have HC2 := Aside0.mk H
 clear H
 go_enter Tryz.func61, Tryz.ntmps61
 go_upto_region 1 with (first | ((with_reducible refine gd 1 ?_); (try (refine gate_guard (by rfl) ?_; dsimp only)); refine bx 1 28 #[.int .i64 a0_0, .slice A0_1 l0_1.length c0_1] ?_; intro gb426 hg w3 hbox hb; have BK426 := hbox; have GW426 := gs hg; have GE426 := gs hg; replace HB := bs hb; clear hb hbox hg))
 (try simp only [Act.put, List.setIfInBounds_toArray, List.set_cons_zero, List.set_cons_succ])
 go_cut [14] (fun v14 wc => ∃ (kq : Nat) (x14_1 : Bool), v14 = .bool x14_1 ∧ Aside0 (spec_pzGood.j0 kq x14_1 a0_0 l0_1 = some r) ∧ Aside0 (kq ≤ k) ∧ Aside0 (wc.heap[gb426]? = some (.cells #[.int .i64 a0_0, (.slice A0_1 l0_1.length c0_1)] 28 (0, 0))) ∧ Aside0 (Below w.heap.size w wc))
 case first =>
  have H := HC2.out
  clear HC2
  obtain ⟨t427, A4, H⟩ := ob H
  (try dsimp only at H)
  by_cases c5 : t427 = true
  ·subst c5
   rw [if_pos rfl] at H
   have H' := Aside0.mk H
   clear H
   obtain ⟨hcz6_0, hcz6_1, hfz6_0, hfz6_1⟩ := z2 BK426
   go_wp2_with (first | ((with_reducible refine gc 67 ?_); refine gl (some 7) Tryz.func67 #[.int .i64 a0_0] ?_; (with_reducible refine (spec_pzSoldiers.calls a0_0 true _ A4.out).mono ?_); rintro e w' ⟨rfl, ⟨nd, rfl⟩⟩; refine ⟨_, rfl, ?_⟩))
   go_meet
   case rel => exact ⟨_, (decide ((l0_1.length : Int) > 6)), (rs), H', ⟨by first | omega | exact Nat.le_refl _⟩, ⟨pk BK426⟩, ⟨bw⟩⟩
  replace c5 := Bool.eq_false_iff.mpr c5
  subst c5
  rw [if_neg (show ¬ (false = true) by decide)] at H
  have H' := Aside0.mk H
  clear H
  obtain ⟨hcz7_0, hcz7_1, hfz7_0, hfz7_1⟩ := z2 BK426
  go_wp2_with (first | ((with_reducible refine gc 67 ?_); refine gl (some 7) Tryz.func67 #[.int .i64 a0_0] ?_; (with_reducible refine (spec_pzSoldiers.calls a0_0 false _ A4.out).mono ?_); rintro e w' ⟨rfl, ⟨nd, rfl⟩⟩; refine ⟨_, rfl, ?_⟩))
  go_meet
  case rel => exact ⟨_, (true), (rs), H', ⟨by first | omega | exact Nat.le_refl _⟩, ⟨pk BK426⟩, ⟨bw⟩⟩
 case rest =>
  clear HC2
  try clear p2
  try clear c5
  try clear c6
  try clear hcz6_0
  try clear hcz6_1
  try clear hcz7_0
  try clear hcz7_1
  try clear hfz6_0
  try clear hfz6_1
  try clear hfz7_0
  try clear hfz7_1
  obtain ⟨kq, x14_1, rfl, HA, HJ1, BK426, HB⟩ := hcut
  cases kq with
  | zero => exact absurd HA.out (by simp [spec_pzGood.j0])
  | succ kj1 =>
   have H := HA.out
   clear HA
   simp only [spec_pzGood.j0] at H
   by_cases c8 : x14_1 = true
   ·subst c8
    rw [if_pos rfl] at H
    obtain rfl := Option.some.inj H
    go_wp2
    go_ret
    exact ⟨rs, bw⟩
   replace c8 := Bool.eq_false_iff.mpr c8
   subst c8
   rw [if_neg (show ¬ (false = true) by decide)] at H
   have H' := Aside0.mk H
   clear H
   have hcz9_0 : wc.cell? ⟨gb426, 0, none⟩ = some (.int .i64 a0_0) := ec BK426
   have hcz9_1 : wc.cell? ⟨gb426, 1, none⟩ = some (.slice A0_1 l0_1.length c0_1) := ec BK426
   have hfz9_0 := blk_frozen BK426.out 0
   have hfz9_1 := blk_frozen BK426.out 1
   go_wp2
   go_loopg [18] kj1 (fun kq v18 w' => ∃ (x18_2 : Int), v18 = .int .i64 x18_2 ∧ Aside0 (spec_pzGood.l0 kq l0_1 (l0_1.length : Int) x18_2 a0_0 l0_1 = some r) ∧ Aside0 (kq ≤ kj1) ∧ Aside0 (w'.heap[gb426]? = some (.cells #[.int .i64 a0_0, (.slice A0_1 l0_1.length c0_1)] 28 (0, 0))) ∧ Aside0 (Below w.heap.size w w'))
   case atStart => exact ⟨(0), (rs), H', ⟨Nat.le_refl _⟩, ⟨pk BK426⟩, ⟨bw⟩⟩
   case round =>
    clear H'
    try clear p2
    try clear c5
    try clear c6
    try clear c8
    try clear hcz6_0
    try clear hcz6_1
    try clear hcz7_0
    try clear hcz7_1
    try clear hcz9_0
    try clear hcz9_1
    try clear hfz6_0
    try clear hfz6_1
    try clear hfz7_0
    try clear hfz7_1
    try clear hfz9_0
    try clear hfz9_1
    try clear p2
    obtain ⟨x18_2, rfl, HA, HK2, BK426, HB⟩ := hrel
    cases gk with
    | zero => exact absurd HA.out (by simp [spec_pzGood.l0])
    | succ k2 =>
     have H := HA.out
     clear HA
     simp only [spec_pzGood.l0] at H
     by_cases c10 : x18_2 < (l0_1.length : Int)
     ·rw [if_pos c10] at H
      have c10b0 := decide_eq_true c10
      clear c10
      obtain ⟨c11, H⟩ := oi H
      have c11b0 := decide_eq_true c11
      clear c11
      obtain ⟨c12, H⟩ := oi H
      have c12b0 := decide_eq_true c12
      clear c12
      obtain ⟨t430, A13, H⟩ := ob H
      (try dsimp only at H)
      by_cases c14 : t430 = true
      ·subst c14
       rw [if_pos rfl] at H
       have H' := Aside0.mk H
       clear H
       have p428 : 0 ≤ (x18_2 : Int) := of_decide_eq_true asm
       have q428 : x18_2 < (l0_1.length : Int) := of_decide_eq_true asm
       obtain ⟨ad428, e428, hx428_0, hx428_1, hx428_2, hx428_3⟩ := at_T37 HR0_1.out x18_2 p428 q428
       cases e428
       replace hx428_0 := (HB.out.cell (World.block_lt_of_cell? w _ hx428_0)).trans hx428_0
       replace hx428_1 := (HB.out.cell (World.block_lt_of_cell? w _ hx428_1)).trans hx428_1
       replace hx428_2 := (HB.out.cell (World.block_lt_of_cell? w _ hx428_2)).trans hx428_2
       replace hx428_3 := (HB.out.cell (World.block_lt_of_cell? w _ hx428_3)).trans hx428_3
       replace p428 := eq_true p428
       replace q428 := eq_true q428
       go_wp2_with (first | ((with_reducible refine gd 4 ?_); (try (refine gate_guard (by rfl) ?_; dsimp only)); refine bx 4 37 #[.int .i64 0, .int .i64 0, .int .i64 0, .int .i64 0] ?_; intro gb429 hg w15 hbox hb; have BK429 := hbox; have GW429 := gs hg; have GE429 := gs hg; replace HB := bs hb; have ⟨NB426_429, NB429_426⟩ := nn BK426 hg; replace BK426 := nk BK426 hb; clear hb hbox hg; have hnb16 := nb NB429_426; have hz17 := z4 BK429; have hz18 := z2 BK426) | ((with_reducible refine gc 65 ?_); refine gl (some 25) Tryz.func65 #[.int .i64 a0_0, .agg #[.int .i64 ((rd_T37 l0_1 x18_2).f0), .int .i64 ((rd_T37 l0_1 x18_2).f1), .int .i64 ((rd_T37 l0_1 x18_2).f2), .int .i64 ((rd_T37 l0_1 x18_2).f3)]] ?_; (with_reducible refine (spec_pzClue.calls a0_0 ((rd_T37 l0_1 x18_2).f0) ((rd_T37 l0_1 x18_2).f1) ((rd_T37 l0_1 x18_2).f2) ((rd_T37 l0_1 x18_2).f3) true _ A13.out).mono ?_); rintro e w19 ⟨rfl, hb⟩; refine ⟨_, rfl, ?_⟩; replace BK426 := nf BK426 hb; replace BK429 := Aside0.mk (blk_below (g := gb429) (o := .cells #[.int .i64 ((rd_T37 l0_1 x18_2).f0), .int .i64 ((rd_T37 l0_1 x18_2).f1), .int .i64 ((rd_T37 l0_1 x18_2).f2), .int .i64 ((rd_T37 l0_1 x18_2).f3)] 37 (0, 0)) (pz BK429) hb); replace HB := bs hb; (try clear hb)))
       go_roundg k2
       case measure => have := HJ1.out; have := HK2.out; omega
       case rel => exact ⟨(wrap64 (x18_2 + 1)), (rs), H', ⟨by have := HJ1.out; have := HK2.out; omega⟩, ⟨pk BK426⟩, ⟨bw⟩⟩
      replace c14 := Bool.eq_false_iff.mpr c14
      subst c14
      rw [if_neg (show ¬ (false = true) by decide)] at H
      obtain rfl := Option.some.inj H
      have p428 : 0 ≤ (x18_2 : Int) := of_decide_eq_true asm
      have q428 : x18_2 < (l0_1.length : Int) := of_decide_eq_true asm
      obtain ⟨ad428, e428, hx428_0, hx428_1, hx428_2, hx428_3⟩ := at_T37 HR0_1.out x18_2 p428 q428
      cases e428
      replace hx428_0 := (HB.out.cell (World.block_lt_of_cell? w _ hx428_0)).trans hx428_0
      replace hx428_1 := (HB.out.cell (World.block_lt_of_cell? w _ hx428_1)).trans hx428_1
      replace hx428_2 := (HB.out.cell (World.block_lt_of_cell? w _ hx428_2)).trans hx428_2
      replace hx428_3 := (HB.out.cell (World.block_lt_of_cell? w _ hx428_3)).trans hx428_3
      replace p428 := eq_true p428
      replace q428 := eq_true q428
      go_wp2_with (first | ((with_reducible refine gd 4 ?_); (try (refine gate_guard (by rfl) ?_; dsimp only)); refine bx 4 37 #[.int .i64 0, .int .i64 0, .int .i64 0, .int .i64 0] ?_; intro gb429 hg w20 hbox hb; have BK429 := hbox; have GW429 := gs hg; have GE429 := gs hg; replace HB := bs hb; have ⟨NB426_429, NB429_426⟩ := nn BK426 hg; replace BK426 := nk BK426 hb; clear hb hbox hg; have hnb21 := nb NB429_426; have hz22 := z4 BK429; have hz23 := z2 BK426) | ((with_reducible refine gc 65 ?_); refine gl (some 25) Tryz.func65 #[.int .i64 a0_0, .agg #[.int .i64 ((rd_T37 l0_1 x18_2).f0), .int .i64 ((rd_T37 l0_1 x18_2).f1), .int .i64 ((rd_T37 l0_1 x18_2).f2), .int .i64 ((rd_T37 l0_1 x18_2).f3)]] ?_; (with_reducible refine (spec_pzClue.calls a0_0 ((rd_T37 l0_1 x18_2).f0) ((rd_T37 l0_1 x18_2).f1) ((rd_T37 l0_1 x18_2).f2) ((rd_T37 l0_1 x18_2).f3) false _ A13.out).mono ?_); rintro e w24 ⟨rfl, hb⟩; refine ⟨_, rfl, ?_⟩; replace BK426 := nf BK426 hb; replace BK429 := Aside0.mk (blk_below (g := gb429) (o := .cells #[.int .i64 ((rd_T37 l0_1 x18_2).f0), .int .i64 ((rd_T37 l0_1 x18_2).f1), .int .i64 ((rd_T37 l0_1 x18_2).f2), .int .i64 ((rd_T37 l0_1 x18_2).f3)] 37 (0, 0)) (pz BK429) hb); replace HB := bs hb; (try clear hb)))
      go_ret
      exact ⟨rs, bw⟩
     rw [if_neg c10] at H
     have c10b0 := decide_eq_false c10
     clear c10
     obtain rfl := Option.some.inj H
     go_wp2
     go_ret
     exact ⟨rs, bw⟩

/-! ### spec_pzFits: function 66 -/
def spec_pzFits.f (k : Nat) (a0_0 : Int) (a0_1 : Int) (a0_2 : Int) (a0_3 : Int) (a1 : ByteArray) : Option (Bool) := (spec_pzValue.f k a0_0 a0_1 a0_2 a1).bind fun t432 => (some (t432 == a0_3))
theorem spec_pzFits.mono : ∀ a0 a1 a2 a3 a4 k, LeO (spec_pzFits.f k a0 a1 a2 a3 a4) (spec_pzFits.f (k + 1) a0 a1 a2 a3 a4) := by
  intro a0 a1 a2 a3 a4 k
  unfold spec_pzFits.f
  repeat' first
      | (with_reducible exact spec_pzValue.mono _ _ _ _ _)
      | (with_reducible exact LeO.refl _)
      | (with_reducible exact LeO.none _)
      | (with_reducible refine LeO.ite ?_ ?_)
      | (with_reducible refine LeO.bind ?_ (fun _ => ?_))
      | exact spec_pzValue.mono _ _ _ _ _
      | exact LeO.none _
      | refine LeO.ite ?_ ?_
      | refine LeO.bind ?_ (fun _ => ?_)
def spec_pzFits.T1 : Bool × List (List Nat × List Nat) := (true, [([], []), ([0], [0]), ([], []), ([2], [2]), ([], []), ([4], [4]), ([], []), ([1, 3, 5, 6], [1, 3, 5, 6]), ([], []), ([8], [8]), ([7, 9], [7, 9]), ([10, 7, 0, 1, 2, 3, 4, 5, 6, 7, 8, 9, 10], [10])])
def spec_pzFits.B1 : List Nat := [0, 1, 0, 4, 0, 16, 0, 127, 0, 256, 1023, 2047]
theorem spec_pzFits.tab1 : rtab .any (opsOf Tryz.f66 1) = spec_pzFits.T1 := by kernel_rfl
theorem spec_pzFits.bits1 : waitsOk spec_pzFits.T1.2 spec_pzFits.B1 = true := by kernel_rfl
set_option maxHeartbeats 8000000 in
set_option maxRecDepth 100000 in
theorem spec_pzFits.calls (k : Nat) (a0_0 : Int) (a0_1 : Int) (a0_2 : Int) (a0_3 : Int) (a1 : ByteArray) (r : Bool) (w : World) (h : spec_pzFits.f k a0_0 a0_1 a0_2 a0_3 a1 = some r) :
  Calls Tryz.prog 66 #[.agg #[.int .i64 a0_0, .int .i64 a0_1, .int .i64 a0_2, .int .i64 a0_3], .string a1] w fun e w' => e = .returned (.bool r) ∧ Below w.heap.size w w' := by
 have hu37 := Tryz.underlying37
 have HB := Aside0.mk (Below.refl w.heap.size w)
 unfold spec_pzFits.f at h
 have H := h
 clear h
 obtain ⟨t432, A3, H⟩ := ob H
 (try dsimp only at H)
 obtain rfl := Option.some.inj H
 go_enter Tryz.func66, Tryz.ntmps66
 try go_wp2_with (first | ((with_reducible refine gd 2 ?_); refine bx 2 37 #[.int .i64 a0_0, .int .i64 a0_1, .int .i64 a0_2, .int .i64 a0_3] ?_; intro gb431 hg w4 hbox hb; have BK431 := hbox; have GW431 := gs hg; have GE431 := gs hg; replace HB := bs hb; clear hb hbox hg))
 replace BK431 := Aside0.mk (blk_drew BK431.out)
 replace HB := Aside0.mk (below_drew1 HB.out)
 refine start_ (n := 12) (S := fun w' => w'.cell? ⟨gb431, 0, none⟩ = some (.int .i64 a0_0) ∧ w'.cell? ⟨gb431, 1, none⟩ = some (.int .i64 a0_1) ∧ w'.cell? ⟨gb431, 2, none⟩ = some (.int .i64 a0_2) ∧ w'.cell? ⟨gb431, 3, none⟩ = some (.int .i64 a0_3)) (ds := []) (tb 12 0) (by kernel_rfl) rfl rfl ⟨ec BK431, ec BK431, ec BK431, ec BK431⟩ (fun hHeld => ?_); refine with_tabW spec_pzFits.tab1 spec_pzFits.bits1 (fun HT_ HW_ => ?_)
 generalize w4.drew = w5 at BK431 HB hHeld ⊢
 refine pu 0 (some 5) (tb 12 1) ?_
 refine pu 2 (some 7) (tb 12 5) ?_
 refine pu 4 (some 9) (tb 12 21) ?_
 refine pu 6 (some 11) (tb 12 85) ?_
 refine pu 8 (some 13) (tb 12 341) ?_
 refine tk 1 (some 6) (tb 12 343) hHeld ?_
 refine tk 3 (some 8) (tb 12 351) hHeld ?_
 refine tk 5 (some 10) (tb 12 383) hHeld ?_
 refine tk 9 (some 14) (tb 12 895) hHeld ?_
 refine one_ (i := 7) (N := some 12) (tb 12 1023) rfl rfl (one_of HT_.out (by kernel_rfl)) (by decide) (fun K hK => ?_)
 refine go1 Tryz.func72 #[.int .i64 a0_0, .int .i64 a0_1, .int .i64 a0_2, .string a1] ?_
 with_reducible refine (spec_pzValue.calls k a0_0 a0_1 a0_2 a1 t432 _ A3.out).mono ?_
 rintro e w6 ⟨rfl, hb⟩
 refine ⟨_, rfl, ?_⟩
 replace BK431 := nk BK431 hb
 replace HB := bs hb
 (try clear hb)
 refine hK.out _ _ ⟨ec BK431, ec BK431, ec BK431, ec BK431⟩ (fun hHeld => ?_)
 clear hK K
 refine nm (some 12) ?_
 refine pu 10 (some 15) (tb 12 2047) ?_
 refine pu 11 (some 4) (tb 12 4095) ?_
 refine done_ (done_of HT_.out (by kernel_rfl)) ?_
 try go_wp2
 go_ret
 exact ⟨rs, bw⟩

end Go.Proofs.YthjbmojacgkdcaaGreatDoor.PFnRowsHidden
