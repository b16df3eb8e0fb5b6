-- Laid by xprint, a program of this session that runs over the kit's print.
import Derived.Test.YtmindeeacfdonaaDoorPFnExactMakePuzzlex0
import Derived.Test.YtmindeeacfdonaaDoorPFnExactMakePuzzlex1
namespace Go.Proofs.YtmindeeacfdonaaDoor.PFnExactMakePuzzle
open Go.RowKit Go.Proofs.YtmindeeacfdonaaDoorW.PrintWords Go.Proofs.YtmindeeacfdonaaDoorW.PrintLast Go.Proofs.YtmindeeacfdonaaDoorW.PrintMore Go.Proofs.YtmindeeacfdonaaDoor.Sq
attribute [local go_sem] max2_int min2_int max_two min_two max_three min_three max_four min_four   -- for this text's walks alone
set_option linter.unusedVariables false
set_option linter.unusedSimpArgs false

/-! ### spec_pzValue: function 85 -/
mutual
def spec_pzValue.l0 : Nat → Int → Int → ByteArray → Int → Option (Int)
  | 0, _, _, _, _ => none
  | k + 1, x1, x2, x3, x9 => if x2 > 0 then ((spec_rwTick.f k x3).bind fun t115 => (spec_pzValue.l0 k x1 (wrap64 (x2 - 1)) t115 x9)) else (if 0 ≤ x1 then (if x1 < (x3.size : Int) then (if (bt x3 x1) = 62 then (some 1) else (some x9)) else (none)) else (none))
def spec_pzValue.l1 : Nat → ByteArray → Int → Int → Option (Int)
  | 0, _, _, _ => none
  | k + 1, x3, x9, x10 => if x10 < (x3.size : Int) then (if 0 ≤ x10 then (if (bt x3 x10) = 62 then (spec_pzValue.l1 k x3 (wrap64 (x9 + 1)) (wrap64 (x10 + 1))) else (spec_pzValue.l1 k x3 x9 (wrap64 (x10 + 1)))) else (none)) else (some x9)
def spec_pzValue.l2 : Nat → Int → ByteArray → Int → List Int → Option (Int)
  | 0, _, _, _, _ => none
  | k + 1, x1, x3, x9, x11 => if (x11.length : Int) > 0 then ((spec_l1Has.f k x11 x1).bind fun t124 => (if t124 = true then (spec_pzValue.j3 k x1 x3 x9 true) else ((spec_l1Has.f k x11 (wrap64 (x1 - 1))).bind fun t125 => (spec_pzValue.j3 k x1 x3 x9 t125)))) else (some x9)
def spec_pzValue.j3 : Nat → Int → ByteArray → Int → Bool → Option (Int)
  | 0, _, _, _, _ => none
  | k + 1, x1, x3, x9, x28 => if x28 = true then ((spec_rwTick.f k x3).bind fun t126 => ((spec_rwPairs.f k t126).bind fun t127 => (spec_pzValue.l2 k x1 t126 (wrap64 (x9 + 1)) t127))) else ((spec_rwTick.f k x3).bind fun t130 => ((spec_rwPairs.f k t130).bind fun t131 => (spec_pzValue.l2 k x1 t130 x9 t131)))
end
def spec_pzValue.f (k : Nat) (a0 : Int) (a1 : Int) (a2 : Int) (a3 : ByteArray) : Option (Int) := if a0 = 0 then (spec_pzValue.l0 k a1 a2 a3 0) else (if a0 = 1 then (spec_pzValue.l1 k a3 0 0) else (if a0 = 2 then ((spec_rwRest.f k a3).bind fun bt116 => (some bt116.2)) else (if a0 = 3 then ((spec_rwPairs.f k a3).bind fun t118 => (some (t118.length : Int))) else ((spec_rwPairs.f k a3).bind fun t121 => (spec_pzValue.l2 k a1 a3 0 t121)))))
theorem spec_pzValue.mono_l : ∀ k, (∀ y0 y1 y2 y3, LeO (spec_pzValue.l0 k y0 y1 y2 y3) (spec_pzValue.l0 (k + 1) y0 y1 y2 y3)) ∧ (∀ y0 y1 y2, LeO (spec_pzValue.l1 k y0 y1 y2) (spec_pzValue.l1 (k + 1) y0 y1 y2)) ∧ (∀ y0 y1 y2 y3, LeO (spec_pzValue.l2 k y0 y1 y2 y3) (spec_pzValue.l2 (k + 1) y0 y1 y2 y3)) ∧ (∀ y0 y1 y2 y3, LeO (spec_pzValue.j3 k y0 y1 y2 y3) (spec_pzValue.j3 (k + 1) y0 y1 y2 y3))
  | 0 => ⟨fun _ _ _ _ r h => by simp [spec_pzValue.l0] at h, fun _ _ _ r h => by simp [spec_pzValue.l1] at h, fun _ _ _ _ r h => by simp [spec_pzValue.l2] at h, fun _ _ _ _ r h => by simp [spec_pzValue.j3] at h⟩
  | k + 1 => by
    obtain ⟨ih0, ih1, ih2, ih3⟩ := spec_pzValue.mono_l k
    refine ⟨?_, ?_, ?_, ?_⟩
    · intro y0 y1 y2 y3
      unfold spec_pzValue.l0
      repeat' first
      | (with_reducible exact ih0 _ _ _ _)
      | (with_reducible exact ih1 _ _ _)
      | (with_reducible exact ih2 _ _ _ _)
      | (with_reducible exact ih3 _ _ _ _)
      | (with_reducible exact spec_l1Has.mono _ _ _)
      | (with_reducible exact spec_rwPairs.mono _ _)
      | (with_reducible exact spec_rwRest.mono _ _)
      | (with_reducible exact spec_rwTick.mono _ _)
      | (with_reducible exact LeO.refl _)
      | (with_reducible exact LeO.none _)
      | (with_reducible refine LeO.ite ?_ ?_)
      | (with_reducible refine LeO.bind ?_ (fun _ => ?_))
      | exact ih0 _ _ _ _
      | exact ih1 _ _ _
      | exact ih2 _ _ _ _
      | exact ih3 _ _ _ _
      | exact spec_l1Has.mono _ _ _
      | exact spec_rwPairs.mono _ _
      | exact spec_rwRest.mono _ _
      | exact spec_rwTick.mono _ _
      | exact LeO.none _
      | refine LeO.ite ?_ ?_
      | refine LeO.bind ?_ (fun _ => ?_)
    · intro y0 y1 y2
      unfold spec_pzValue.l1
      repeat' first
      | (with_reducible exact ih0 _ _ _ _)
      | (with_reducible exact ih1 _ _ _)
      | (with_reducible exact ih2 _ _ _ _)
      | (with_reducible exact ih3 _ _ _ _)
      | (with_reducible exact spec_l1Has.mono _ _ _)
      | (with_reducible exact spec_rwPairs.mono _ _)
      | (with_reducible exact spec_rwRest.mono _ _)
      | (with_reducible exact spec_rwTick.mono _ _)
      | (with_reducible exact LeO.refl _)
      | (with_reducible exact LeO.none _)
      | (with_reducible refine LeO.ite ?_ ?_)
      | (with_reducible refine LeO.bind ?_ (fun _ => ?_))
      | exact ih0 _ _ _ _
      | exact ih1 _ _ _
      | exact ih2 _ _ _ _
      | exact ih3 _ _ _ _
      | exact spec_l1Has.mono _ _ _
      | exact spec_rwPairs.mono _ _
      | exact spec_rwRest.mono _ _
      | exact spec_rwTick.mono _ _
      | exact LeO.none _
      | refine LeO.ite ?_ ?_
      | refine LeO.bind ?_ (fun _ => ?_)
    · intro y0 y1 y2 y3
      unfold spec_pzValue.l2
      repeat' first
      | (with_reducible exact ih0 _ _ _ _)
      | (with_reducible exact ih1 _ _ _)
      | (with_reducible exact ih2 _ _ _ _)
      | (with_reducible exact ih3 _ _ _ _)
      | (with_reducible exact spec_l1Has.mono _ _ _)
      | (with_reducible exact spec_rwPairs.mono _ _)
      | (with_reducible exact spec_rwRest.mono _ _)
      | (with_reducible exact spec_rwTick.mono _ _)
      | (with_reducible exact LeO.refl _)
      | (with_reducible exact LeO.none _)
      | (with_reducible refine LeO.ite ?_ ?_)
      | (with_reducible refine LeO.bind ?_ (fun _ => ?_))
      | exact ih0 _ _ _ _
      | exact ih1 _ _ _
      | exact ih2 _ _ _ _
      | exact ih3 _ _ _ _
      | exact spec_l1Has.mono _ _ _
      | exact spec_rwPairs.mono _ _
      | exact spec_rwRest.mono _ _
      | exact spec_rwTick.mono _ _
      | exact LeO.none _
      | refine LeO.ite ?_ ?_
      | refine LeO.bind ?_ (fun _ => ?_)
    · intro y0 y1 y2 y3
      unfold spec_pzValue.j3
      repeat' first
      | (with_reducible exact ih0 _ _ _ _)
      | (with_reducible exact ih1 _ _ _)
      | (with_reducible exact ih2 _ _ _ _)
      | (with_reducible exact ih3 _ _ _ _)
      | (with_reducible exact spec_l1Has.mono _ _ _)
      | (with_reducible exact spec_rwPairs.mono _ _)
      | (with_reducible exact spec_rwRest.mono _ _)
      | (with_reducible exact spec_rwTick.mono _ _)
      | (with_reducible exact LeO.refl _)
      | (with_reducible exact LeO.none _)
      | (with_reducible refine LeO.ite ?_ ?_)
      | (with_reducible refine LeO.bind ?_ (fun _ => ?_))
      | exact ih0 _ _ _ _
      | exact ih1 _ _ _
      | exact ih2 _ _ _ _
      | exact ih3 _ _ _ _
      | exact spec_l1Has.mono _ _ _
      | exact spec_rwPairs.mono _ _
      | exact spec_rwRest.mono _ _
      | exact spec_rwTick.mono _ _
      | exact LeO.none _
      | refine LeO.ite ?_ ?_
      | refine LeO.bind ?_ (fun _ => ?_)
theorem spec_pzValue.mono : ∀ a0 a1 a2 a3 k, LeO (spec_pzValue.f k a0 a1 a2 a3) (spec_pzValue.f (k + 1) a0 a1 a2 a3) := by
  intro a0 a1 a2 a3 k
  obtain ⟨ih0, ih1, ih2, ih3⟩ := spec_pzValue.mono_l k
  unfold spec_pzValue.f
  repeat' first
      | (with_reducible exact ih0 _ _ _ _)
      | (with_reducible exact ih1 _ _ _)
      | (with_reducible exact ih2 _ _ _ _)
      | (with_reducible exact ih3 _ _ _ _)
      | (with_reducible exact spec_l1Has.mono _ _ _)
      | (with_reducible exact spec_rwPairs.mono _ _)
      | (with_reducible exact spec_rwRest.mono _ _)
      | (with_reducible exact spec_rwTick.mono _ _)
      | (with_reducible exact LeO.refl _)
      | (with_reducible exact LeO.none _)
      | (with_reducible refine LeO.ite ?_ ?_)
      | (with_reducible refine LeO.bind ?_ (fun _ => ?_))
      | exact ih0 _ _ _ _
      | exact ih1 _ _ _
      | exact ih2 _ _ _ _
      | exact ih3 _ _ _ _
      | exact spec_l1Has.mono _ _ _
      | exact spec_rwPairs.mono _ _
      | exact spec_rwRest.mono _ _
      | exact spec_rwTick.mono _ _
      | exact LeO.none _
      | refine LeO.ite ?_ ?_
      | refine LeO.bind ?_ (fun _ => ?_)
set_option maxHeartbeats 8000000 in
set_option maxRecDepth 100000 in
theorem spec_pzValue.calls (k : Nat) (a0 : Int) (a1 : Int) (a2 : Int) (a3 : ByteArray) (r : Int) (w : World) (h : spec_pzValue.f k a0 a1 a2 a3 = some r) :
  Calls Tryd.prog 85 #[.int .i64 a0, .int .i64 a1, .int .i64 a2, .string a3] w fun e w' => e = .returned (.int .i64 r) ∧ Below w.heap.size w w' := by
 have HB := Aside0.mk (Below.refl w.heap.size w)
 unfold spec_pzValue.f at h
 have H := h
 clear h
 by_cases c5 : a0 = 0
 ·rw [if_pos c5] at H
  have c5b0 : (a0 == 0) = true := beq_iff_eq.mpr c5
  have c5b1 : (a0 != 0) = false := bne_eq_false_iff_eq.mpr c5
  clear c5
  have H' := Aside0.mk H
  clear H
  go_enter Tryd.func85, Tryd.ntmps85
  go_wp2
  go_loopg [2, 3] k (fun kq v2 v3 w' => ∃ (x2_1 : Int) (x3_1 : ByteArray), v2 = .int .i64 x2_1 ∧ v3 = .string x3_1 ∧ Aside0 (spec_pzValue.l0 kq a1 x2_1 x3_1 0 = some r) ∧ Aside0 (kq ≤ k) ∧ Aside0 (Below w.heap.size w w'))
  case atStart => exact ⟨(a2), (a3), (rs), (rs), H', ⟨Nat.le_refl _⟩, ⟨bw⟩⟩
  case round =>
   clear H'
   try clear p2
   try clear c5
   try clear c5b0
   try clear c5b1
   obtain ⟨x2_1, x3_1, rfl, rfl, HA, HK1, HB⟩ := hrel
   cases gk with
   | zero => exact absurd HA.out (by simp [spec_pzValue.l0])
   | succ k1 =>
    have H := HA.out
    clear HA
    simp only [spec_pzValue.l0] at H
    by_cases c6 : x2_1 > 0
    ·rw [if_pos c6] at H
     have c6b0 : decide (0 < x2_1) = true := decide_eq_true c6
     clear c6
     replace H := Option.bind_eq_some_iff.mp H
     obtain ⟨t115, A70, H⟩ := H
     (try dsimp only at H)
     have A7 := Aside0.mk A70
     clear A70
     have H' := Aside0.mk H
     clear H
     go_wp2_with (first | ((with_reducible refine gate_callee (f := 102) rfl ?_); refine gl (some 40) Tryd.func102 #[.string x3_1] ?_; (with_reducible refine (spec_rwTick.calls k1 x3_1 t115 _ A7.out).mono ?_); rintro e w8 ⟨rfl, hb⟩; refine ⟨_, rfl, ?_⟩; replace HB := bs hb; (try clear hb)))
     go_roundg k1
     case measure => have := HK1.out; omega
     case rel => exact ⟨(wrap64 (x2_1 - 1)), (t115), (rs), (rs), H', ⟨by have := HK1.out; omega⟩, ⟨bw⟩⟩
    ·rw [if_neg c6] at H
     have c6b0 : decide (0 < x2_1) = false := decide_eq_false c6
     clear c6
     by_cases c9 : 0 ≤ a1
     ·rw [if_pos c9] at H
      have c9b0 : decide (0 ≤ a1) = true := decide_eq_true c9
      clear c9
      by_cases c10 : a1 < (x3_1.size : Int)
      ·rw [if_pos c10] at H
       have c10b0 : decide (a1 < (x3_1.size : Int)) = true := decide_eq_true c10
       clear c10
       by_cases c12 : (bt x3_1 a1) = 62
       ·rw [if_pos c12] at H
        have c12b0 : ((bt x3_1 a1) == 62) = true := beq_iff_eq.mpr c12
        have c12b1 : ((bt x3_1 a1) != 62) = false := bne_eq_false_iff_eq.mpr c12
        clear c12
        obtain rfl := Option.some.inj H
        have p11 : 0 ≤ (a1 : Int) := of_decide_eq_true (by first | (with_reducible assumption) | assumption)
        have q11 : a1 < (x3_1.size : Int) := of_decide_eq_true (by first | (with_reducible assumption) | assumption)
        have hx11 := bt_at x3_1 a1
        replace p11 := eq_true p11
        replace q11 := eq_true q11
        go_wp2
        go_ret
        exact ⟨rs, bw⟩
       ·rw [if_neg c12] at H
        have c12b0 : ((bt x3_1 a1) == 62) = false := beq_eq_false_iff_ne.mpr c12
        have c12b1 : ((bt x3_1 a1) != 62) = true := bne_iff_ne.mpr c12
        obtain rfl := Option.some.inj H
        have p11 : 0 ≤ (a1 : Int) := of_decide_eq_true (by first | (with_reducible assumption) | assumption)
        have q11 : a1 < (x3_1.size : Int) := of_decide_eq_true (by first | (with_reducible assumption) | assumption)
        have hx11 := bt_at x3_1 a1
        replace p11 := eq_true p11
        replace q11 := eq_true q11
        go_wp2
        go_ret
        exact ⟨rs, bw⟩
      ·rw [if_neg c10] at H
       exact absurd H (by simp)
     ·rw [if_neg c9] at H
      exact absurd H (by simp)
 ·rw [if_neg c5] at H
  have c5b0 : (a0 == 0) = false := beq_eq_false_iff_ne.mpr c5
  have c5b1 : (a0 != 0) = true := bne_iff_ne.mpr c5
  by_cases c13 : a0 = 1
  ·rw [if_pos c13] at H
   have c13b0 : (a0 == 1) = true := beq_iff_eq.mpr c13
   have c13b1 : (a0 != 1) = false := bne_eq_false_iff_eq.mpr c13
   clear c13
   have H' := Aside0.mk H
   clear H
   go_enter Tryd.func85, Tryd.ntmps85
   go_wp2
   go_loopg [9, 10] k (fun kq v9 v10 w' => ∃ (x9_1 : Int) (x10_1 : Int), v9 = .int .i64 x9_1 ∧ v10 = .int .i64 x10_1 ∧ Aside0 (spec_pzValue.l1 kq a3 x9_1 x10_1 = some r) ∧ Aside0 (kq ≤ k) ∧ Aside0 (Below w.heap.size w w'))
   case atStart => exact ⟨(0), (0), (rs), (rs), H', ⟨Nat.le_refl _⟩, ⟨bw⟩⟩
   case round =>
    clear H'
    try clear c1
    try clear p1
    try clear q1
    try clear hx1
    try clear p2
    try clear c5
    try clear c5b0
    try clear c5b1
    try clear c6
    try clear c6b0
    try clear p6
    try clear c8
    try clear c9
    try clear c9b0
    try clear c10
    try clear c10b0
    try clear p11
    try clear q11
    try clear hx11
    try clear c12
    try clear c12b0
    try clear c12b1
    try clear c13
    try clear c13b0
    try clear c13b1
    try clear p11
    try clear p2
    try clear q11
    obtain ⟨x9_1, x10_1, rfl, rfl, HA, HK1, HB⟩ := hrel
    cases gk with
    | zero => exact absurd HA.out (by simp [spec_pzValue.l1])
    | succ k1 =>
     have H := HA.out
     clear HA
     simp only [spec_pzValue.l1] at H
     by_cases c14 : x10_1 < (a3.size : Int)
     ·rw [if_pos c14] at H
      have c14b0 : decide (x10_1 < (a3.size : Int)) = true := decide_eq_true c14
      clear c14
      by_cases c15 : 0 ≤ x10_1
      ·rw [if_pos c15] at H
       have c15b0 : decide (0 ≤ x10_1) = true := decide_eq_true c15
       clear c15
       by_cases c17 : (bt a3 x10_1) = 62
       ·rw [if_pos c17] at H
        have c17b0 : ((bt a3 x10_1) == 62) = true := beq_iff_eq.mpr c17
        have c17b1 : ((bt a3 x10_1) != 62) = false := bne_eq_false_iff_eq.mpr c17
        clear c17
        have H' := Aside0.mk H
        clear H
        have p16 : 0 ≤ (x10_1 : Int) := of_decide_eq_true (by first | (with_reducible assumption) | assumption)
        have q16 : x10_1 < (a3.size : Int) := of_decide_eq_true (by first | (with_reducible assumption) | assumption)
        have hx16 := bt_at a3 x10_1
        replace p16 := eq_true p16
        replace q16 := eq_true q16
        go_wp2
        go_roundg k1
        case measure => have := HK1.out; omega
        case rel => exact ⟨(wrap64 (x9_1 + 1)), (wrap64 (x10_1 + 1)), (rs), (rs), H', ⟨by have := HK1.out; omega⟩, ⟨bw⟩⟩
       ·rw [if_neg c17] at H
        have c17b0 : ((bt a3 x10_1) == 62) = false := beq_eq_false_iff_ne.mpr c17
        have c17b1 : ((bt a3 x10_1) != 62) = true := bne_iff_ne.mpr c17
        have H' := Aside0.mk H
        clear H
        have p16 : 0 ≤ (x10_1 : Int) := of_decide_eq_true (by first | (with_reducible assumption) | assumption)
        have q16 : x10_1 < (a3.size : Int) := of_decide_eq_true (by first | (with_reducible assumption) | assumption)
        have hx16 := bt_at a3 x10_1
        replace p16 := eq_true p16
        replace q16 := eq_true q16
        go_wp2
        go_roundg k1
        case measure => have := HK1.out; omega
        case rel => exact ⟨(x9_1), (wrap64 (x10_1 + 1)), (rs), (rs), H', ⟨by have := HK1.out; omega⟩, ⟨bw⟩⟩
      ·rw [if_neg c15] at H
       exact absurd H (by simp)
     ·rw [if_neg c14] at H
      have c14b0 : decide (x10_1 < (a3.size : Int)) = false := decide_eq_false c14
      clear c14
      obtain rfl := Option.some.inj H
      go_wp2
      go_ret
      exact ⟨rs, bw⟩
  ·rw [if_neg c13] at H
   have c13b0 : (a0 == 1) = false := beq_eq_false_iff_ne.mpr c13
   have c13b1 : (a0 != 1) = true := bne_iff_ne.mpr c13
   by_cases c18 : a0 = 2
   ·rw [if_pos c18] at H
    have c18b0 : (a0 == 2) = true := beq_iff_eq.mpr c18
    have c18b1 : (a0 != 2) = false := bne_eq_false_iff_eq.mpr c18
    clear c18
    replace H := Option.bind_eq_some_iff.mp H
    obtain ⟨⟨t116, t117⟩, A190, H⟩ := H
    (try dsimp only at H)
    have A19 := Aside0.mk A190
    clear A190
    obtain rfl := Option.some.inj H
    go_enter Tryd.func85, Tryd.ntmps85
    go_wp2_with (first | ((with_reducible refine gate_callee (f := 103) rfl ?_); refine gl (some 63) Tryd.func103 #[.string a3] ?_; (with_reducible refine (spec_rwRest.calls k a3 t116 t117 _ A19.out).mono ?_); rintro e w20 ⟨rfl, hb⟩; refine ⟨_, rfl, ?_⟩; replace HB := bs hb; (try clear hb)))
    go_ret
    exact ⟨rs, bw⟩
   ·rw [if_neg c18] at H
    have c18b0 : (a0 == 2) = false := beq_eq_false_iff_ne.mpr c18
    have c18b1 : (a0 != 2) = true := bne_iff_ne.mpr c18
    by_cases c21 : a0 = 3
    ·rw [if_pos c21] at H
     have c21b0 : (a0 == 3) = true := beq_iff_eq.mpr c21
     have c21b1 : (a0 != 3) = false := bne_eq_false_iff_eq.mpr c21
     clear c21
     replace H := Option.bind_eq_some_iff.mp H
     obtain ⟨t118, A220, H⟩ := H
     (try dsimp only at H)
     have A22 := Aside0.mk A220
     clear A220
     obtain rfl := Option.some.inj H
     go_enter Tryd.func85, Tryd.ntmps85
     go_wp2_with (first | ((with_reducible refine gate_callee (f := 104) rfl ?_); refine gl (some 69) Tryd.func104 #[.string a3] ?_; (with_reducible refine (spec_rwPairs.calls k a3 t118 _ A22.out).mono ?_); rintro e w23 ⟨v119, rfl, ho0, hb⟩; refine ⟨_, rfl, ?_⟩; have HO120 := Aside0.mk (Kd.R_lower ho0 (below_size bw)); replace HB := bs hb; (try clear hb); (try clear ho0); obtain ⟨Ao24, co24, eo24⟩ := Kd.R_slice HO120.out; subst eo24))
     go_ret
     exact ⟨rs, bw⟩
    ·rw [if_neg c21] at H
     have c21b0 : (a0 == 3) = false := beq_eq_false_iff_ne.mpr c21
     have c21b1 : (a0 != 3) = true := bne_iff_ne.mpr c21
     replace H := Option.bind_eq_some_iff.mp H
     obtain ⟨t121, A250, H⟩ := H
     (try dsimp only at H)
     have A25 := Aside0.mk A250
     clear A250
     have H' := Aside0.mk H
     clear H
     go_enter Tryd.func85, Tryd.ntmps85
     go_wp2_with (first | ((with_reducible refine gate_callee (f := 104) rfl ?_); refine gl (some 14) Tryd.func104 #[.string a3] ?_; (with_reducible refine (spec_rwPairs.calls k a3 t121 _ A25.out).mono ?_); rintro e w26 ⟨v122, rfl, ho0, hb⟩; refine ⟨_, rfl, ?_⟩; have HO123 := Aside0.mk (Kd.R_lower ho0 (below_size bw)); replace HB := bs hb; (try clear hb); (try clear ho0)))
     go_loopg [3, 9, 11] k (fun kq v3 v9 v11 w' => ∃ (x3_1 : ByteArray) (x9_1 : Int) (x11_1 : List Int), v3 = .string x3_1 ∧ v9 = .int .i64 x9_1 ∧ Aside0 (spec_pzValue.l2 kq a1 x3_1 x9_1 x11_1 = some r) ∧ Aside0 (kq ≤ k) ∧ Aside0 (Kd.R (Kd.int .i64) 3 w' w.heap.size (fun _ => True) v11 x11_1) ∧ Aside0 (Below w.heap.size w w'))
     case atStart => exact ⟨(a3), (0), (t121), (rs), (rs), H', ⟨Nat.le_refl _⟩, ⟨pr HO123⟩, ⟨bw⟩⟩
     case round =>
      clear H'
      try clear c1
      try clear p1
      try clear q1
      try clear hx1
      try clear c2
      try clear p2
      try clear c5
      try clear c5b0
      try clear c5b1
      try clear c6
      try clear c6b0
      try clear p6
      try clear c8
      try clear c9
      try clear c9b0
      try clear c10
      try clear c10b0
      try clear p11
      try clear q11
      try clear hx11
      try clear c12
      try clear c12b0
      try clear c12b1
      try clear c13
      try clear c13b0
      try clear c13b1
      try clear c14
      try clear c14b0
      try clear c15
      try clear c15b0
      try clear p16
      try clear q16
      try clear hx16
      try clear c17
      try clear c17b0
      try clear c17b1
      try clear c18
      try clear c18b0
      try clear c18b1
      try clear c21
      try clear c21b0
      try clear c21b1
      try clear p1
      try clear p11
      try clear p16
      try clear p2
      try clear p6
      try clear q1
      try clear q11
      try clear q16
      obtain ⟨x3_1, x9_1, x11_1, rfl, rfl, HA, HK1, HO_11, HB⟩ := hrel
      cases gk with
      | zero => exact absurd HA.out (by simp [spec_pzValue.l2])
      | succ k1 =>
       have H := HA.out
       clear HA
       simp only [spec_pzValue.l2] at H
       by_cases c27 : (x11_1.length : Int) > 0
       ·rw [if_pos c27] at H
        have c27b0 : decide (0 < (x11_1.length : Int)) = true := decide_eq_true c27
        have c27b1 : decide (0 < x11_1.length) = true := decide_eq_true (by omega)
        clear c27
        have HC28 := Aside0.mk H
        clear H
        obtain ⟨Ao29, co29, eo29⟩ := Kd.R_slice HO_11.out
        subst eo29
        go_upto_region 6 with (fail)
        go_cut [28] (fun v28 wc => ∃ (kq : Nat) (x28_27 : Bool), v28 = .bool x28_27 ∧ Aside0 (spec_pzValue.j3 kq a1 x3_1 x9_1 x28_27 = some r) ∧ Aside0 (kq ≤ k1) ∧ Aside0 (Below w.heap.size w wc))
        case first =>
         have H := HC28.out
         clear HC28
         replace H := Option.bind_eq_some_iff.mp H
         obtain ⟨t124, A300, H⟩ := H
         (try dsimp only at H)
         have A30 := Aside0.mk A300
         clear A300
         by_cases c31 : t124 = true
         ·subst c31
          rw [if_pos rfl] at H
          have H' := Aside0.mk H
          clear H
          go_wp2_with (first | ((with_reducible refine gate_callee (f := 105) rfl ?_); refine gl (some 22) Tryd.func105 #[.slice Ao29 x11_1.length co29, .int .i64 a1] ?_; (with_reducible refine (spec_l1Has.calls k1 _ _ x11_1 a1 true _ ?side1 ?side2 A30.out).mono ?_); (case side1 => repeat (first | exact (Kd.R_reads' HO_11.out).2.2 | (with_reducible refine Kd.C_alloc ?_ _) | (with_reducible refine Kd.C_drewN ?_ _) | (with_reducible refine Kd.C_drew ?_))); (case side2 => exact (Kd.R_reads' HO_11.out).2.1); rintro e w' ⟨rfl, ⟨nd, rfl⟩⟩; refine ⟨_, rfl, ?_⟩))
          go_meet
          case rel => exact ⟨_, (true), (rs), H', ⟨by have := HK1.out; first | omega | exact Nat.le_refl _⟩, ⟨bw⟩⟩
         ·replace c31 := Bool.eq_false_iff.mpr c31
          subst c31
          rw [if_neg (show ¬ (false = true) by decide)] at H
          replace H := Option.bind_eq_some_iff.mp H
          obtain ⟨t125, A320, H⟩ := H
          (try dsimp only at H)
          have A32 := Aside0.mk A320
          clear A320
          have H' := Aside0.mk H
          clear H
          go_wp2_with (first | ((with_reducible refine gate_callee (f := 105) rfl ?_); refine gl (some 22) Tryd.func105 #[.slice Ao29 x11_1.length co29, .int .i64 a1] ?_; (with_reducible refine (spec_l1Has.calls k1 _ _ x11_1 a1 false _ ?side1 ?side2 A30.out).mono ?_); (case side1 => repeat (first | exact (Kd.R_reads' HO_11.out).2.2 | (with_reducible refine Kd.C_alloc ?_ _) | (with_reducible refine Kd.C_drewN ?_ _) | (with_reducible refine Kd.C_drew ?_))); (case side2 => exact (Kd.R_reads' HO_11.out).2.1); rintro e w' ⟨rfl, ⟨nd, rfl⟩⟩; refine ⟨_, rfl, ?_⟩) | (go_at_call 105; (with_reducible refine (spec_l1Has.calls k1 _ _ x11_1 (wrap64 (a1 - 1)) t125 _ ?side1 ?side2 A32.out).mono ?_); (case side1 => repeat (first | exact (Kd.R_reads' HO_11.out).2.2 | (with_reducible refine Kd.C_alloc ?_ _) | (with_reducible refine Kd.C_drewN ?_ _) | (with_reducible refine Kd.C_drew ?_))); (case side2 => exact (Kd.R_reads' HO_11.out).2.1); rintro e w' ⟨rfl, ⟨nd, rfl⟩⟩))
          go_meet
          case rel => exact ⟨_, (t125), (rs), H', ⟨by have := HK1.out; first | omega | exact Nat.le_refl _⟩, ⟨bw⟩⟩
        case rest =>
         clear HC28
         try clear c1
         try clear p1
         try clear q1
         try clear hx1
         try clear c2
         try clear p2
         try clear c3
         try clear c5
         try clear c5b0
         try clear c5b1
         try clear c6
         try clear c6b0
         try clear p6
         try clear c8
         try clear c9
         try clear c9b0
         try clear c10
         try clear c10b0
         try clear p11
         try clear q11
         try clear hx11
         try clear c12
         try clear c12b0
         try clear c12b1
         try clear c13
         try clear c13b0
         try clear c13b1
         try clear c14
         try clear c14b0
         try clear c15
         try clear c15b0
         try clear p16
         try clear q16
         try clear hx16
         try clear c17
         try clear c17b0
         try clear c17b1
         try clear c18
         try clear c18b0
         try clear c18b1
         try clear c21
         try clear c21b0
         try clear c21b1
         try clear c27
         try clear c27b0
         try clear c27b1
         try clear c31
         try clear p1
         try clear p11
         try clear p16
         try clear p2
         try clear p6
         try clear q1
         try clear q11
         try clear q16
         obtain ⟨kq, x28_27, rfl, HA, HJ27, HB⟩ := hcut
         cases kq with
         | zero => exact absurd HA.out (by simp [spec_pzValue.j3])
         | succ kj27 =>
          have H := HA.out
          clear HA
          simp only [spec_pzValue.j3] at H
          by_cases c33 : x28_27 = true
          ·subst c33
           rw [if_pos rfl] at H
           replace H := Option.bind_eq_some_iff.mp H
           obtain ⟨t126, A340, H⟩ := H
           (try dsimp only at H)
           have A34 := Aside0.mk A340
           clear A340
           replace H := Option.bind_eq_some_iff.mp H
           obtain ⟨t127, A350, H⟩ := H
           (try dsimp only at H)
           have A35 := Aside0.mk A350
           clear A350
           have H' := Aside0.mk H
           clear H
           go_wp2_with (first | ((with_reducible refine gate_callee (f := 102) rfl ?_); refine gl (some 32) Tryd.func102 #[.string x3_1] ?_; (with_reducible refine (spec_rwTick.calls kj27 x3_1 t126 _ A34.out).mono ?_); rintro e w36 ⟨rfl, hb⟩; refine ⟨_, rfl, ?_⟩; replace HB := bs hb; (try clear hb)) | ((with_reducible refine gate_callee (f := 104) rfl ?_); refine gl (some 19) Tryd.func104 #[.string t126] ?_; (with_reducible refine (spec_rwPairs.calls kj27 t126 t127 _ A35.out).mono ?_); rintro e w37 ⟨v128, rfl, ho0, hb⟩; refine ⟨_, rfl, ?_⟩; have HO129 := Aside0.mk (Kd.R_lower ho0 (below_size bw)); replace HB := bs hb; (try clear hb); (try clear ho0)))
           go_roundg kj27
           case measure => have := HK1.out; have := HJ27.out; omega
           case rel => exact ⟨(t126), (wrap64 (x9_1 + 1)), (t127), (rs), (rs), H', ⟨by have := HK1.out; have := HJ27.out; omega⟩, ⟨pr HO129⟩, ⟨bw⟩⟩
          ·replace c33 := Bool.eq_false_iff.mpr c33
           subst c33
           rw [if_neg (show ¬ (false = true) by decide)] at H
           replace H := Option.bind_eq_some_iff.mp H
           obtain ⟨t130, A380, H⟩ := H
           (try dsimp only at H)
           have A38 := Aside0.mk A380
           clear A380
           replace H := Option.bind_eq_some_iff.mp H
           obtain ⟨t131, A390, H⟩ := H
           (try dsimp only at H)
           have A39 := Aside0.mk A390
           clear A390
           have H' := Aside0.mk H
           clear H
           go_wp2_with (first | ((with_reducible refine gate_callee (f := 102) rfl ?_); refine gl (some 32) Tryd.func102 #[.string x3_1] ?_; (with_reducible refine (spec_rwTick.calls kj27 x3_1 t130 _ A38.out).mono ?_); rintro e w40 ⟨rfl, hb⟩; refine ⟨_, rfl, ?_⟩; replace HB := bs hb; (try clear hb)) | ((with_reducible refine gate_callee (f := 104) rfl ?_); refine gl (some 19) Tryd.func104 #[.string t130] ?_; (with_reducible refine (spec_rwPairs.calls kj27 t130 t131 _ A39.out).mono ?_); rintro e w41 ⟨v132, rfl, ho0, hb⟩; refine ⟨_, rfl, ?_⟩; have HO133 := Aside0.mk (Kd.R_lower ho0 (below_size bw)); replace HB := bs hb; (try clear hb); (try clear ho0)))
           go_roundg kj27
           case measure => have := HK1.out; have := HJ27.out; omega
           case rel => exact ⟨(t130), (x9_1), (t131), (rs), (rs), H', ⟨by have := HK1.out; have := HJ27.out; omega⟩, ⟨pr HO133⟩, ⟨bw⟩⟩
       ·rw [if_neg c27] at H
        have c27b0 : decide (0 < (x11_1.length : Int)) = false := decide_eq_false c27
        have c27b1 : decide (0 < x11_1.length) = false := decide_eq_false (by omega)
        clear c27
        obtain rfl := Option.some.inj H
        obtain ⟨Ao42, co42, eo42⟩ := Kd.R_slice HO_11.out
        subst eo42
        go_wp2
        go_ret
        exact ⟨rs, bw⟩

/-! ### spec_pzOf: function 63 -/
def spec_pzOf.j0 : Nat → Int → Int → ByteArray → Bool → Int → Int → Int → Int → Option (Int × Int × Int × Int)
  | 0, _, _, _, _, _, _, _, _ => none
  | k + 1, x0, x1, x2, x15, x136000, x136001, x136002, x136003 => if x15 = true then (if (x2.size : Int) = 0 then (none) else (if x0 = 0 then ((spec_pzValue.f k x0 (Int.tmod x1 (x2.size : Int)) (Int.tmod (wrap64 (Int.tdiv x1 11)) 4) x2).bind fun t136 => (some (x136000, Int.tmod x1 (x2.size : Int), Int.tmod (wrap64 (Int.tdiv x1 11)) 4, t136))) else ((spec_pzValue.f k x0 (Int.tmod x1 (x2.size : Int)) x136002 x2).bind fun t137 => (some (x136000, Int.tmod x1 (x2.size : Int), x136002, t137))))) else (if x0 = 0 then ((spec_pzValue.f k x0 x136001 (Int.tmod (wrap64 (Int.tdiv x1 11)) 4) x2).bind fun t138 => (some (x136000, x136001, Int.tmod (wrap64 (Int.tdiv x1 11)) 4, t138))) else ((spec_pzValue.f k x0 x136001 x136002 x2).bind fun t139 => (some (x136000, x136001, x136002, t139))))
def spec_pzOf.f (k : Nat) (a0 : Int) (a1 : Int) (a2 : ByteArray) : Option (Int × Int × Int × Int) := if a0 = 0 then (spec_pzOf.j0 k a0 a1 a2 true a0 0 0 0) else (spec_pzOf.j0 k a0 a1 a2 (a0 == 4) a0 0 0 0)
theorem spec_pzOf.mono_l : ∀ k, (∀ y0 y1 y2 y3 y4 y5 y6 y7, LeO (spec_pzOf.j0 k y0 y1 y2 y3 y4 y5 y6 y7) (spec_pzOf.j0 (k + 1) y0 y1 y2 y3 y4 y5 y6 y7))
  | 0 => fun _ _ _ _ _ _ _ _ r h => by simp [spec_pzOf.j0] at h
  | k + 1 => by
    have ih0 := spec_pzOf.mono_l k
    · intro y0 y1 y2 y3 y4 y5 y6 y7
      unfold spec_pzOf.j0
      repeat' first
      | (with_reducible exact ih0 _ _ _ _ _ _ _ _)
      | (with_reducible exact spec_pzValue.mono _ _ _ _ _)
      | (with_reducible exact LeO.refl _)
      | (with_reducible exact LeO.none _)
      | (with_reducible refine LeO.ite ?_ ?_)
      | (with_reducible refine LeO.bind ?_ (fun _ => ?_))
      | exact ih0 _ _ _ _ _ _ _ _
      | exact spec_pzValue.mono _ _ _ _ _
      | exact LeO.none _
      | refine LeO.ite ?_ ?_
      | refine LeO.bind ?_ (fun _ => ?_)
theorem spec_pzOf.mono : ∀ a0 a1 a2 k, LeO (spec_pzOf.f k a0 a1 a2) (spec_pzOf.f (k + 1) a0 a1 a2) := by
  intro a0 a1 a2 k
  have ih0 := spec_pzOf.mono_l k
  unfold spec_pzOf.f
  repeat' first
      | (with_reducible exact ih0 _ _ _ _ _ _ _ _)
      | (with_reducible exact spec_pzValue.mono _ _ _ _ _)
      | (with_reducible exact LeO.refl _)
      | (with_reducible exact LeO.none _)
      | (with_reducible refine LeO.ite ?_ ?_)
      | (with_reducible refine LeO.bind ?_ (fun _ => ?_))
      | exact ih0 _ _ _ _ _ _ _ _
      | exact spec_pzValue.mono _ _ _ _ _
      | exact LeO.none _
      | refine LeO.ite ?_ ?_
      | refine LeO.bind ?_ (fun _ => ?_)
set_option maxHeartbeats 8000000 in
set_option maxRecDepth 100000 in
theorem spec_pzOf.calls (k : Nat) (a0 : Int) (a1 : Int) (a2 : ByteArray) (r1 : Int) (r2 : Int) (r3 : Int) (r4 : Int) (w : World) (h : spec_pzOf.f k a0 a1 a2 = some (r1, r2, r3, r4)) :
  Calls Tryd.prog 63 #[.int .i64 a0, .int .i64 a1, .string a2] w fun e w' => e = .returned (.agg #[.int .i64 r1, .int .i64 r2, .int .i64 r3, .int .i64 r4]) ∧ Below w.heap.size w w' := by
 have hu33 := Tryd.underlying33
 have HB := Aside0.mk (Below.refl w.heap.size w)
 unfold spec_pzOf.f at h
 have H := h
 clear h
 have HC4 := Aside0.mk H
 clear H
 go_enter Tryd.func63, Tryd.ntmps63
 go_upto_region 2 with (first | ((with_reducible refine gate_dst (N := 6) rfl ?_); refine bx 6 33 #[.int .i64 0, .int .i64 0, .int .i64 0, .int .i64 0] ?_; intro gb134 hg w5 hbox hb; have BK134 := hbox; have GW134 := gs hg; have GE134 := gs hg; replace HB := bs hb; clear hb hbox hg) | ((with_reducible refine gate_dst (N := 7) rfl ?_); refine bx 7 33 #[.int .i64 0, .int .i64 0, .int .i64 0, .int .i64 0] ?_; intro gb135 hg w6 hbox hb; have BK135 := hbox; have GW135 := gs hg; have GE135 := gs hg; replace HB := bs hb; have NB134_135 := nl BK134 hg; have NB135_134 := ng BK134 hg; replace BK134 := nk BK134 hb; clear hb hbox hg; have hnb7 := NB135_134.out; have hnc7 := NB134_135.out; have hcz8_0 := bc BK135 0 (.int .i64 0); have hcz8_1 := bc BK135 1 (.int .i64 0); have hcz8_2 := bc BK135 2 (.int .i64 0); have hcz8_3 := bc BK135 3 (.int .i64 0); have hfz8_0 := blk_frozen BK135.out 0; have hfz8_1 := blk_frozen BK135.out 1; have hfz8_2 := blk_frozen BK135.out 2; have hfz8_3 := blk_frozen BK135.out 3))
 (try simp only [Act.put, List.setIfInBounds_toArray, List.set_cons_zero, List.set_cons_succ])
 go_cut [15] (fun v15 wc => ∃ (kq : Nat) (x15_3 : Bool), v15 = .bool x15_3 ∧ Aside0 (spec_pzOf.j0 kq a0 a1 a2 x15_3 a0 0 0 0 = some (r1, r2, r3, r4)) ∧ Aside0 (kq ≤ k) ∧ Aside0 (wc.heap[gb134]? = some (.cells #[.int .i64 0, .int .i64 0, .int .i64 0, .int .i64 0] 33 (0, 0))) ∧ Aside0 (wc.heap[gb135]? = some (.cells #[.int .i64 a0, .int .i64 0, .int .i64 0, .int .i64 0] 33 (0, 0))) ∧ Aside0 (Below w.heap.size w wc))
 case first =>
  have H := HC4.out
  clear HC4
  by_cases c9 : a0 = 0
  ·rw [if_pos c9] at H
   have c9b0 : (a0 == 0) = true := beq_iff_eq.mpr c9
   have c9b1 : (a0 != 0) = false := bne_eq_false_iff_eq.mpr c9
   clear c9
   (first | rw [c9b0] | rw [@decide_eq_true _ _ (of_decide_eq_true c9b1)] | rw [@decide_eq_false _ _ (of_decide_eq_false c9b1)] | (simp only [i64_w, i32_w]; rw [c9b0]) | skip)
   have H' := Aside0.mk H
   clear H
   go_wp2
   go_meet
   case rel => exact ⟨_, (true), (rs), H', ⟨by first | omega | exact Nat.le_refl _⟩, ⟨by (with_reducible repeat (first | refine blk_drewN ?_ _ | refine blk_drew ?_ | refine blk_alloc ?_ _)); refine blk_far ?_ NB134_135.out _; (with_reducible repeat (first | refine blk_drewN ?_ _ | refine blk_drew ?_ | refine blk_alloc ?_ _)); refine blk_far ?_ NB134_135.out _; (with_reducible repeat (first | refine blk_drewN ?_ _ | refine blk_drew ?_ | refine blk_alloc ?_ _)); refine blk_far ?_ NB134_135.out _; (with_reducible repeat (first | refine blk_drewN ?_ _ | refine blk_drew ?_ | refine blk_alloc ?_ _)); refine blk_far ?_ NB134_135.out _; (with_reducible repeat (first | refine blk_drewN ?_ _ | refine blk_drew ?_ | refine blk_alloc ?_ _)); exact BK134.out⟩, ⟨by (with_reducible repeat (first | refine blk_drewN ?_ _ | refine blk_drew ?_ | refine blk_alloc ?_ _)); refine blk_put (cs := #[.int .i64 a0, .int .i64 0, .int .i64 0, .int .i64 0]) ?_ 3 _ rfl; (with_reducible repeat (first | refine blk_drewN ?_ _ | refine blk_drew ?_ | refine blk_alloc ?_ _)); refine blk_put (cs := #[.int .i64 a0, .int .i64 0, .int .i64 0, .int .i64 0]) ?_ 2 _ rfl; (with_reducible repeat (first | refine blk_drewN ?_ _ | refine blk_drew ?_ | refine blk_alloc ?_ _)); refine blk_put (cs := #[.int .i64 a0, .int .i64 0, .int .i64 0, .int .i64 0]) ?_ 1 _ rfl; (with_reducible repeat (first | refine blk_drewN ?_ _ | refine blk_drew ?_ | refine blk_alloc ?_ _)); refine blk_put (cs := #[.int .i64 0, .int .i64 0, .int .i64 0, .int .i64 0]) ?_ 0 _ rfl; (with_reducible repeat (first | refine blk_drewN ?_ _ | refine blk_drew ?_ | refine blk_alloc ?_ _)); exact BK135.out⟩, ⟨bw⟩⟩
  ·rw [if_neg c9] at H
   have c9b0 : (a0 == 0) = false := beq_eq_false_iff_ne.mpr c9
   have c9b1 : (a0 != 0) = true := bne_iff_ne.mpr c9
   (first | rw [c9b0] | rw [@decide_eq_true _ _ (of_decide_eq_true c9b1)] | rw [@decide_eq_false _ _ (of_decide_eq_false c9b1)] | (simp only [i64_w, i32_w]; rw [c9b0]) | skip)
   have H' := Aside0.mk H
   clear H
   go_wp2
   go_meet
   case rel => exact ⟨_, ((a0 == 4)), (rs), H', ⟨by first | omega | exact Nat.le_refl _⟩, ⟨by (with_reducible repeat (first | refine blk_drewN ?_ _ | refine blk_drew ?_ | refine blk_alloc ?_ _)); refine blk_far ?_ NB134_135.out _; (with_reducible repeat (first | refine blk_drewN ?_ _ | refine blk_drew ?_ | refine blk_alloc ?_ _)); refine blk_far ?_ NB134_135.out _; (with_reducible repeat (first | refine blk_drewN ?_ _ | refine blk_drew ?_ | refine blk_alloc ?_ _)); refine blk_far ?_ NB134_135.out _; (with_reducible repeat (first | refine blk_drewN ?_ _ | refine blk_drew ?_ | refine blk_alloc ?_ _)); refine blk_far ?_ NB134_135.out _; (with_reducible repeat (first | refine blk_drewN ?_ _ | refine blk_drew ?_ | refine blk_alloc ?_ _)); exact BK134.out⟩, ⟨by (with_reducible repeat (first | refine blk_drewN ?_ _ | refine blk_drew ?_ | refine blk_alloc ?_ _)); refine blk_put (cs := #[.int .i64 a0, .int .i64 0, .int .i64 0, .int .i64 0]) ?_ 3 _ rfl; (with_reducible repeat (first | refine blk_drewN ?_ _ | refine blk_drew ?_ | refine blk_alloc ?_ _)); refine blk_put (cs := #[.int .i64 a0, .int .i64 0, .int .i64 0, .int .i64 0]) ?_ 2 _ rfl; (with_reducible repeat (first | refine blk_drewN ?_ _ | refine blk_drew ?_ | refine blk_alloc ?_ _)); refine blk_put (cs := #[.int .i64 a0, .int .i64 0, .int .i64 0, .int .i64 0]) ?_ 1 _ rfl; (with_reducible repeat (first | refine blk_drewN ?_ _ | refine blk_drew ?_ | refine blk_alloc ?_ _)); refine blk_put (cs := #[.int .i64 0, .int .i64 0, .int .i64 0, .int .i64 0]) ?_ 0 _ rfl; (with_reducible repeat (first | refine blk_drewN ?_ _ | refine blk_drew ?_ | refine blk_alloc ?_ _)); exact BK135.out⟩, ⟨bw⟩⟩
 case rest =>
  clear HC4
  try clear p2
  try clear c6
  try clear c7
  try clear c9
  try clear c9b0
  try clear c9b1
  try clear hcz8_0
  try clear hcz8_1
  try clear hcz8_2
  try clear hcz8_3
  try clear hfz8_0
  try clear hfz8_1
  try clear hfz8_2
  try clear hfz8_3
  obtain ⟨kq, x15_3, rfl, HA, HJ3, BK134, BK135, HB⟩ := hcut
  cases kq with
  | zero => exact absurd HA.out (by simp [spec_pzOf.j0])
  | succ kj3 =>
   have H := HA.out
   clear HA
   simp only [spec_pzOf.j0] at H
   by_cases c10 : x15_3 = true
   ·subst c10
    rw [if_pos rfl] at H
    by_cases c11 : (a2.size : Int) = 0
    ·rw [if_pos c11] at H
     exact absurd H (by simp)
    ·rw [if_neg c11] at H
     have c11b0 : ((a2.size : Int) == 0) = false := beq_eq_false_iff_ne.mpr c11
     have c11b1 : ((a2.size : Int) != 0) = true := bne_iff_ne.mpr c11
     by_cases c12 : a0 = 0
     ·rw [if_pos c12] at H
      have c12b0 : (a0 == 0) = true := beq_iff_eq.mpr c12
      have c12b1 : (a0 != 0) = false := bne_eq_false_iff_eq.mpr c12
      clear c12
      replace H := Option.bind_eq_some_iff.mp H
      obtain ⟨t136, A130, H⟩ := H
      (try dsimp only at H)
      have A13 := Aside0.mk A130
      clear A130
      simp only [Option.some.injEq, Prod.mk.injEq] at H
      obtain ⟨rfl, rfl, rfl, rfl⟩ := H
      have hnb14 := NB135_134.out
      have hnc14 := NB134_135.out
      have hcz15_0 : wc.cell? ⟨gb135, 0, none⟩ = some (.int .i64 a0) := ec BK135
      have hcz15_1 : wc.cell? ⟨gb135, 1, none⟩ = some (.int .i64 0) := ec BK135
      have hcz15_2 : wc.cell? ⟨gb135, 2, none⟩ = some (.int .i64 0) := ec BK135
      have hcz15_3 : wc.cell? ⟨gb135, 3, none⟩ = some (.int .i64 0) := ec BK135
      have hfz15_0 := blk_frozen BK135.out 0
      have hfz15_1 := blk_frozen BK135.out 1
      have hfz15_2 := blk_frozen BK135.out 2
      have hfz15_3 := blk_frozen BK135.out 3
      go_wp2_with (first | ((with_reducible refine gate_callee (f := 85) rfl ?_); refine gl (some 33) Tryd.func85 #[.int .i64 a0, .int .i64 (Int.tmod a1 (a2.size : Int)), .int .i64 (Int.tmod (wrap64 (Int.tdiv a1 11)) 4), .string a2] ?_; (with_reducible refine (spec_pzValue.calls kj3 a0 (Int.tmod a1 (a2.size : Int)) (Int.tmod (wrap64 (Int.tdiv a1 11)) 4) a2 t136 _ A13.out).mono ?_); rintro e w16 ⟨rfl, hb⟩; refine ⟨_, rfl, ?_⟩; replace BK134 := Aside0.mk (blk_below (g := gb134) (o := .cells #[.int .i64 0, .int .i64 0, .int .i64 0, .int .i64 0] 33 (0, 0)) (by (with_reducible repeat (first | refine blk_drewN ?_ _ | refine blk_drew ?_ | refine blk_alloc ?_ _)); refine blk_far ?_ NB134_135.out _; (with_reducible repeat (first | refine blk_drewN ?_ _ | refine blk_drew ?_ | refine blk_alloc ?_ _)); refine blk_far ?_ NB134_135.out _; (with_reducible repeat (first | refine blk_drewN ?_ _ | refine blk_drew ?_ | refine blk_alloc ?_ _)); exact BK134.out) hb); replace BK135 := Aside0.mk (blk_below (g := gb135) (o := .cells #[.int .i64 a0, .int .i64 (Int.tmod a1 (a2.size : Int)), .int .i64 (Int.tmod (wrap64 (Int.tdiv a1 11)) 4), .int .i64 0] 33 (0, 0)) (by (with_reducible repeat (first | refine blk_drewN ?_ _ | refine blk_drew ?_ | refine blk_alloc ?_ _)); refine blk_put (cs := #[.int .i64 a0, .int .i64 (Int.tmod a1 (a2.size : Int)), .int .i64 0, .int .i64 0]) ?_ 2 _ rfl; (with_reducible repeat (first | refine blk_drewN ?_ _ | refine blk_drew ?_ | refine blk_alloc ?_ _)); refine blk_put (cs := #[.int .i64 a0, .int .i64 0, .int .i64 0, .int .i64 0]) ?_ 1 _ rfl; (with_reducible repeat (first | refine blk_drewN ?_ _ | refine blk_drew ?_ | refine blk_alloc ?_ _)); exact BK135.out) hb); replace HB := bs hb; (try clear hb); have hcz17_0 := bc BK135 0 (.int .i64 a0); have hcz17_1 := bc BK135 1 (.int .i64 (Int.tmod a1 (a2.size : Int))); have hcz17_2 := bc BK135 2 (.int .i64 (Int.tmod (wrap64 (Int.tdiv a1 11)) 4)); have hcz17_3 := bc BK135 3 (.int .i64 0); have hfz17_0 := blk_frozen BK135.out 0; have hfz17_1 := blk_frozen BK135.out 1; have hfz17_2 := blk_frozen BK135.out 2; have hfz17_3 := blk_frozen BK135.out 3; have hcz18_0 := bc BK134 0 (.int .i64 0); have hcz18_1 := bc BK134 1 (.int .i64 0); have hcz18_2 := bc BK134 2 (.int .i64 0); have hcz18_3 := bc BK134 3 (.int .i64 0); have hfz18_0 := blk_frozen BK134.out 0; have hfz18_1 := blk_frozen BK134.out 1; have hfz18_2 := blk_frozen BK134.out 2; have hfz18_3 := blk_frozen BK134.out 3))
      refine bodyPost_ret (results_cell_row rfl _ _ gb134 33 #[.int .i64 a0, .int .i64 (Int.tmod a1 (a2.size : Int)), .int .i64 (Int.tmod (wrap64 (Int.tdiv a1 11)) 4), .int .i64 t136] (0, 0) _ rfl (by (with_reducible repeat (first | refine blk_drewN ?_ _ | refine blk_drew ?_ | refine blk_alloc ?_ _)); refine blk_put (cs := #[.int .i64 a0, .int .i64 (Int.tmod a1 (a2.size : Int)), .int .i64 (Int.tmod (wrap64 (Int.tdiv a1 11)) 4), .int .i64 0]) ?_ 3 _ rfl; (with_reducible repeat (first | refine blk_drewN ?_ _ | refine blk_drew ?_ | refine blk_alloc ?_ _)); refine blk_put (cs := #[.int .i64 a0, .int .i64 (Int.tmod a1 (a2.size : Int)), .int .i64 0, .int .i64 0]) ?_ 2 _ rfl; (with_reducible repeat (first | refine blk_drewN ?_ _ | refine blk_drew ?_ | refine blk_alloc ?_ _)); refine blk_put (cs := #[.int .i64 a0, .int .i64 0, .int .i64 0, .int .i64 0]) ?_ 1 _ rfl; (with_reducible repeat (first | refine blk_drewN ?_ _ | refine blk_drew ?_ | refine blk_alloc ?_ _)); refine blk_put (cs := #[.int .i64 0, .int .i64 0, .int .i64 0, .int .i64 0]) ?_ 0 _ rfl; (with_reducible repeat (first | refine blk_drewN ?_ _ | refine blk_drew ?_ | refine blk_alloc ?_ _)); refine blk_far ?_ NB134_135.out _; (with_reducible repeat (first | refine blk_drewN ?_ _ | refine blk_drew ?_ | refine blk_alloc ?_ _)); exact BK134.out) Tryd.underlying33 rfl (by kernel_rfl)) rfl ?_
      exact ⟨rs, bw⟩
     ·rw [if_neg c12] at H
      have c12b0 : (a0 == 0) = false := beq_eq_false_iff_ne.mpr c12
      have c12b1 : (a0 != 0) = true := bne_iff_ne.mpr c12
      replace H := Option.bind_eq_some_iff.mp H
      obtain ⟨t137, A190, H⟩ := H
      (try dsimp only at H)
      have A19 := Aside0.mk A190
      clear A190
      simp only [Option.some.injEq, Prod.mk.injEq] at H
      obtain ⟨rfl, rfl, rfl, rfl⟩ := H
      have hnb20 := NB135_134.out
      have hnc20 := NB134_135.out
      have hcz21_0 : wc.cell? ⟨gb135, 0, none⟩ = some (.int .i64 a0) := ec BK135
      have hcz21_1 : wc.cell? ⟨gb135, 1, none⟩ = some (.int .i64 0) := ec BK135
      have hcz21_2 : wc.cell? ⟨gb135, 2, none⟩ = some (.int .i64 0) := ec BK135
      have hcz21_3 : wc.cell? ⟨gb135, 3, none⟩ = some (.int .i64 0) := ec BK135
      have hfz21_0 := blk_frozen BK135.out 0
      have hfz21_1 := blk_frozen BK135.out 1
      have hfz21_2 := blk_frozen BK135.out 2
      have hfz21_3 := blk_frozen BK135.out 3
      go_wp2_with (first | ((with_reducible refine gate_callee (f := 85) rfl ?_); refine gl (some 33) Tryd.func85 #[.int .i64 a0, .int .i64 (Int.tmod a1 (a2.size : Int)), .int .i64 0, .string a2] ?_; (with_reducible refine (spec_pzValue.calls kj3 a0 (Int.tmod a1 (a2.size : Int)) 0 a2 t137 _ A19.out).mono ?_); rintro e w22 ⟨rfl, hb⟩; refine ⟨_, rfl, ?_⟩; replace BK134 := Aside0.mk (blk_below (g := gb134) (o := .cells #[.int .i64 0, .int .i64 0, .int .i64 0, .int .i64 0] 33 (0, 0)) (by (with_reducible repeat (first | refine blk_drewN ?_ _ | refine blk_drew ?_ | refine blk_alloc ?_ _)); refine blk_far ?_ NB134_135.out _; (with_reducible repeat (first | refine blk_drewN ?_ _ | refine blk_drew ?_ | refine blk_alloc ?_ _)); exact BK134.out) hb); replace BK135 := Aside0.mk (blk_below (g := gb135) (o := .cells #[.int .i64 a0, .int .i64 (Int.tmod a1 (a2.size : Int)), .int .i64 0, .int .i64 0] 33 (0, 0)) (by (with_reducible repeat (first | refine blk_drewN ?_ _ | refine blk_drew ?_ | refine blk_alloc ?_ _)); refine blk_put (cs := #[.int .i64 a0, .int .i64 0, .int .i64 0, .int .i64 0]) ?_ 1 _ rfl; (with_reducible repeat (first | refine blk_drewN ?_ _ | refine blk_drew ?_ | refine blk_alloc ?_ _)); exact BK135.out) hb); replace HB := bs hb; (try clear hb); have hcz23_0 := bc BK135 0 (.int .i64 a0); have hcz23_1 := bc BK135 1 (.int .i64 (Int.tmod a1 (a2.size : Int))); have hcz23_2 := bc BK135 2 (.int .i64 0); have hcz23_3 := bc BK135 3 (.int .i64 0); have hfz23_0 := blk_frozen BK135.out 0; have hfz23_1 := blk_frozen BK135.out 1; have hfz23_2 := blk_frozen BK135.out 2; have hfz23_3 := blk_frozen BK135.out 3; have hcz24_0 := bc BK134 0 (.int .i64 0); have hcz24_1 := bc BK134 1 (.int .i64 0); have hcz24_2 := bc BK134 2 (.int .i64 0); have hcz24_3 := bc BK134 3 (.int .i64 0); have hfz24_0 := blk_frozen BK134.out 0; have hfz24_1 := blk_frozen BK134.out 1; have hfz24_2 := blk_frozen BK134.out 2; have hfz24_3 := blk_frozen BK134.out 3))
      refine bodyPost_ret (results_cell_row rfl _ _ gb134 33 #[.int .i64 a0, .int .i64 (Int.tmod a1 (a2.size : Int)), .int .i64 0, .int .i64 t137] (0, 0) _ rfl (by (with_reducible repeat (first | refine blk_drewN ?_ _ | refine blk_drew ?_ | refine blk_alloc ?_ _)); refine blk_put (cs := #[.int .i64 a0, .int .i64 (Int.tmod a1 (a2.size : Int)), .int .i64 0, .int .i64 0]) ?_ 3 _ rfl; (with_reducible repeat (first | refine blk_drewN ?_ _ | refine blk_drew ?_ | refine blk_alloc ?_ _)); refine blk_put (cs := #[.int .i64 a0, .int .i64 (Int.tmod a1 (a2.size : Int)), .int .i64 0, .int .i64 0]) ?_ 2 _ rfl; (with_reducible repeat (first | refine blk_drewN ?_ _ | refine blk_drew ?_ | refine blk_alloc ?_ _)); refine blk_put (cs := #[.int .i64 a0, .int .i64 0, .int .i64 0, .int .i64 0]) ?_ 1 _ rfl; (with_reducible repeat (first | refine blk_drewN ?_ _ | refine blk_drew ?_ | refine blk_alloc ?_ _)); refine blk_put (cs := #[.int .i64 0, .int .i64 0, .int .i64 0, .int .i64 0]) ?_ 0 _ rfl; (with_reducible repeat (first | refine blk_drewN ?_ _ | refine blk_drew ?_ | refine blk_alloc ?_ _)); refine blk_far ?_ NB134_135.out _; (with_reducible repeat (first | refine blk_drewN ?_ _ | refine blk_drew ?_ | refine blk_alloc ?_ _)); exact BK134.out) Tryd.underlying33 rfl (by kernel_rfl)) rfl ?_
      exact ⟨rs, bw⟩
   ·replace c10 := Bool.eq_false_iff.mpr c10
    subst c10
    rw [if_neg (show ¬ (false = true) by decide)] at H
    by_cases c25 : a0 = 0
    ·rw [if_pos c25] at H
     have c25b0 : (a0 == 0) = true := beq_iff_eq.mpr c25
     have c25b1 : (a0 != 0) = false := bne_eq_false_iff_eq.mpr c25
     clear c25
     replace H := Option.bind_eq_some_iff.mp H
     obtain ⟨t138, A260, H⟩ := H
     (try dsimp only at H)
     have A26 := Aside0.mk A260
     clear A260
     simp only [Option.some.injEq, Prod.mk.injEq] at H
     obtain ⟨rfl, rfl, rfl, rfl⟩ := H
     have hnb27 := NB135_134.out
     have hnc27 := NB134_135.out
     have hcz28_0 : wc.cell? ⟨gb135, 0, none⟩ = some (.int .i64 a0) := ec BK135
     have hcz28_1 : wc.cell? ⟨gb135, 1, none⟩ = some (.int .i64 0) := ec BK135
     have hcz28_2 : wc.cell? ⟨gb135, 2, none⟩ = some (.int .i64 0) := ec BK135
     have hcz28_3 : wc.cell? ⟨gb135, 3, none⟩ = some (.int .i64 0) := ec BK135
     have hfz28_0 := blk_frozen BK135.out 0
     have hfz28_1 := blk_frozen BK135.out 1
     have hfz28_2 := blk_frozen BK135.out 2
     have hfz28_3 := blk_frozen BK135.out 3
     go_wp2_with (first | ((with_reducible refine gate_callee (f := 85) rfl ?_); refine gl (some 33) Tryd.func85 #[.int .i64 a0, .int .i64 0, .int .i64 (Int.tmod (wrap64 (Int.tdiv a1 11)) 4), .string a2] ?_; (with_reducible refine (spec_pzValue.calls kj3 a0 0 (Int.tmod (wrap64 (Int.tdiv a1 11)) 4) a2 t138 _ A26.out).mono ?_); rintro e w29 ⟨rfl, hb⟩; refine ⟨_, rfl, ?_⟩; replace BK134 := Aside0.mk (blk_below (g := gb134) (o := .cells #[.int .i64 0, .int .i64 0, .int .i64 0, .int .i64 0] 33 (0, 0)) (by (with_reducible repeat (first | refine blk_drewN ?_ _ | refine blk_drew ?_ | refine blk_alloc ?_ _)); refine blk_far ?_ NB134_135.out _; (with_reducible repeat (first | refine blk_drewN ?_ _ | refine blk_drew ?_ | refine blk_alloc ?_ _)); exact BK134.out) hb); replace BK135 := Aside0.mk (blk_below (g := gb135) (o := .cells #[.int .i64 a0, .int .i64 0, .int .i64 (Int.tmod (wrap64 (Int.tdiv a1 11)) 4), .int .i64 0] 33 (0, 0)) (by (with_reducible repeat (first | refine blk_drewN ?_ _ | refine blk_drew ?_ | refine blk_alloc ?_ _)); refine blk_put (cs := #[.int .i64 a0, .int .i64 0, .int .i64 0, .int .i64 0]) ?_ 2 _ rfl; (with_reducible repeat (first | refine blk_drewN ?_ _ | refine blk_drew ?_ | refine blk_alloc ?_ _)); exact BK135.out) hb); replace HB := bs hb; (try clear hb); have hcz30_0 := bc BK135 0 (.int .i64 a0); have hcz30_1 := bc BK135 1 (.int .i64 0); have hcz30_2 := bc BK135 2 (.int .i64 (Int.tmod (wrap64 (Int.tdiv a1 11)) 4)); have hcz30_3 := bc BK135 3 (.int .i64 0); have hfz30_0 := blk_frozen BK135.out 0; have hfz30_1 := blk_frozen BK135.out 1; have hfz30_2 := blk_frozen BK135.out 2; have hfz30_3 := blk_frozen BK135.out 3; have hcz31_0 := bc BK134 0 (.int .i64 0); have hcz31_1 := bc BK134 1 (.int .i64 0); have hcz31_2 := bc BK134 2 (.int .i64 0); have hcz31_3 := bc BK134 3 (.int .i64 0); have hfz31_0 := blk_frozen BK134.out 0; have hfz31_1 := blk_frozen BK134.out 1; have hfz31_2 := blk_frozen BK134.out 2; have hfz31_3 := blk_frozen BK134.out 3))
     refine bodyPost_ret (results_cell_row rfl _ _ gb134 33 #[.int .i64 a0, .int .i64 0, .int .i64 (Int.tmod (wrap64 (Int.tdiv a1 11)) 4), .int .i64 t138] (0, 0) _ rfl (by (with_reducible repeat (first | refine blk_drewN ?_ _ | refine blk_drew ?_ | refine blk_alloc ?_ _)); refine blk_put (cs := #[.int .i64 a0, .int .i64 0, .int .i64 (Int.tmod (wrap64 (Int.tdiv a1 11)) 4), .int .i64 0]) ?_ 3 _ rfl; (with_reducible repeat (first | refine blk_drewN ?_ _ | refine blk_drew ?_ | refine blk_alloc ?_ _)); refine blk_put (cs := #[.int .i64 a0, .int .i64 0, .int .i64 0, .int .i64 0]) ?_ 2 _ rfl; (with_reducible repeat (first | refine blk_drewN ?_ _ | refine blk_drew ?_ | refine blk_alloc ?_ _)); refine blk_put (cs := #[.int .i64 a0, .int .i64 0, .int .i64 0, .int .i64 0]) ?_ 1 _ rfl; (with_reducible repeat (first | refine blk_drewN ?_ _ | refine blk_drew ?_ | refine blk_alloc ?_ _)); refine blk_put (cs := #[.int .i64 0, .int .i64 0, .int .i64 0, .int .i64 0]) ?_ 0 _ rfl; (with_reducible repeat (first | refine blk_drewN ?_ _ | refine blk_drew ?_ | refine blk_alloc ?_ _)); refine blk_far ?_ NB134_135.out _; (with_reducible repeat (first | refine blk_drewN ?_ _ | refine blk_drew ?_ | refine blk_alloc ?_ _)); exact BK134.out) Tryd.underlying33 rfl (by kernel_rfl)) rfl ?_
     exact ⟨rs, bw⟩
    ·rw [if_neg c25] at H
     have c25b0 : (a0 == 0) = false := beq_eq_false_iff_ne.mpr c25
     have c25b1 : (a0 != 0) = true := bne_iff_ne.mpr c25
     replace H := Option.bind_eq_some_iff.mp H
     obtain ⟨t139, A320, H⟩ := H
     (try dsimp only at H)
     have A32 := Aside0.mk A320
     clear A320
     simp only [Option.some.injEq, Prod.mk.injEq] at H
     obtain ⟨rfl, rfl, rfl, rfl⟩ := H
     have hnb33 := NB135_134.out
     have hnc33 := NB134_135.out
     have hcz34_0 : wc.cell? ⟨gb135, 0, none⟩ = some (.int .i64 a0) := ec BK135
     have hcz34_1 : wc.cell? ⟨gb135, 1, none⟩ = some (.int .i64 0) := ec BK135
     have hcz34_2 : wc.cell? ⟨gb135, 2, none⟩ = some (.int .i64 0) := ec BK135
     have hcz34_3 : wc.cell? ⟨gb135, 3, none⟩ = some (.int .i64 0) := ec BK135
     have hfz34_0 := blk_frozen BK135.out 0
     have hfz34_1 := blk_frozen BK135.out 1
     have hfz34_2 := blk_frozen BK135.out 2
     have hfz34_3 := blk_frozen BK135.out 3
     go_wp2_with (first | ((with_reducible refine gate_callee (f := 85) rfl ?_); refine gl (some 33) Tryd.func85 #[.int .i64 a0, .int .i64 0, .int .i64 0, .string a2] ?_; (with_reducible refine (spec_pzValue.calls kj3 a0 0 0 a2 t139 _ A32.out).mono ?_); rintro e w35 ⟨rfl, hb⟩; refine ⟨_, rfl, ?_⟩; replace BK134 := nk BK134 hb; replace BK135 := nk BK135 hb; replace HB := bs hb; (try clear hb); have hcz36_0 := bc BK135 0 (.int .i64 a0); have hcz36_1 := bc BK135 1 (.int .i64 0); have hcz36_2 := bc BK135 2 (.int .i64 0); have hcz36_3 := bc BK135 3 (.int .i64 0); have hfz36_0 := blk_frozen BK135.out 0; have hfz36_1 := blk_frozen BK135.out 1; have hfz36_2 := blk_frozen BK135.out 2; have hfz36_3 := blk_frozen BK135.out 3; have hcz37_0 := bc BK134 0 (.int .i64 0); have hcz37_1 := bc BK134 1 (.int .i64 0); have hcz37_2 := bc BK134 2 (.int .i64 0); have hcz37_3 := bc BK134 3 (.int .i64 0); have hfz37_0 := blk_frozen BK134.out 0; have hfz37_1 := blk_frozen BK134.out 1; have hfz37_2 := blk_frozen BK134.out 2; have hfz37_3 := blk_frozen BK134.out 3))
     refine bodyPost_ret (results_cell_row rfl _ _ gb134 33 #[.int .i64 a0, .int .i64 0, .int .i64 0, .int .i64 t139] (0, 0) _ rfl (by (with_reducible repeat (first | refine blk_drewN ?_ _ | refine blk_drew ?_ | refine blk_alloc ?_ _)); refine blk_put (cs := #[.int .i64 a0, .int .i64 0, .int .i64 0, .int .i64 0]) ?_ 3 _ rfl; (with_reducible repeat (first | refine blk_drewN ?_ _ | refine blk_drew ?_ | refine blk_alloc ?_ _)); refine blk_put (cs := #[.int .i64 a0, .int .i64 0, .int .i64 0, .int .i64 0]) ?_ 2 _ rfl; (with_reducible repeat (first | refine blk_drewN ?_ _ | refine blk_drew ?_ | refine blk_alloc ?_ _)); refine blk_put (cs := #[.int .i64 a0, .int .i64 0, .int .i64 0, .int .i64 0]) ?_ 1 _ rfl; (with_reducible repeat (first | refine blk_drewN ?_ _ | refine blk_drew ?_ | refine blk_alloc ?_ _)); refine blk_put (cs := #[.int .i64 0, .int .i64 0, .int .i64 0, .int .i64 0]) ?_ 0 _ rfl; (with_reducible repeat (first | refine blk_drewN ?_ _ | refine blk_drew ?_ | refine blk_alloc ?_ _)); refine blk_far ?_ NB134_135.out _; (with_reducible repeat (first | refine blk_drewN ?_ _ | refine blk_drew ?_ | refine blk_alloc ?_ _)); exact BK134.out) Tryd.underlying33 rfl (by kernel_rfl)) rfl ?_
     exact ⟨rs, bw⟩

end Go.Proofs.YtmindeeacfdonaaDoor.PFnExactMakePuzzle
