-- Laid by xprint, a program of this session that runs over the kit's print.
import Derived.Test.YthjbmojacgkdcaaGreatDoorPFnRowsHiddenx5
namespace Go.Proofs.YthjbmojacgkdcaaGreatDoor.PFnRowsHidden
open Go.RowKit Go.Proofs.YthjbmojacgkdcaaGreatDoorW.PrintWords Go.Proofs.YthjbmojacgkdcaaGreatDoorW.PrintLast Go.Proofs.YthjbmojacgkdcaaGreatDoorW.PrintMore Go.Proofs.YthjbmojacgkdcaaGreatDoor.Sq
attribute [local go_sem] max2_int min2_int max_two min_two max_three min_three max_four min_four   -- for this text's walks alone
set_option linter.unusedVariables false
set_option linter.unusedSimpArgs false

/-! ### spec_pzValue: function 72 -/
mutual
def spec_pzValue.l0 : Nat → Int → Int → ByteArray → Int → Option (Int)
  | 0, _, _, _, _ => none
  | k + 1, x1, x2, x3, x9 => if x2 > 0 then ((spec_rwTick.f k x3).bind fun t200 => (spec_pzValue.l0 k x1 (wrap64 (x2 - 1)) t200 x9)) else (if 0 ≤ x1 then (if x1 < (x3.size : Int) then (if (bt x3 x1) = 62 then (some 1) else (some x9)) else (none)) else (none))
def spec_pzValue.l1 : Nat → ByteArray → Int → Int → Option (Int)
  | 0, _, _, _ => none
  | k + 1, x3, x9, x10 => if x10 < (x3.size : Int) then (if 0 ≤ x10 then (if (bt x3 x10) = 62 then (spec_pzValue.l1 k x3 (wrap64 (x9 + 1)) (wrap64 (x10 + 1))) else (spec_pzValue.l1 k x3 x9 (wrap64 (x10 + 1)))) else (none)) else (some x9)
def spec_pzValue.l2 : Nat → Int → ByteArray → Int → List Int → Option (Int)
  | 0, _, _, _, _ => none
  | k + 1, x1, x3, x9, x11 => if (x11.length : Int) > 0 then ((spec_l1Has.f k x11 x1).bind fun t209 => (if t209 = true then (spec_pzValue.j3 k x1 x3 x9 true) else ((spec_l1Has.f k x11 (wrap64 (x1 - 1))).bind fun t210 => (spec_pzValue.j3 k x1 x3 x9 t210)))) else (some x9)
def spec_pzValue.j3 : Nat → Int → ByteArray → Int → Bool → Option (Int)
  | 0, _, _, _, _ => none
  | k + 1, x1, x3, x9, x28 => if x28 = true then ((spec_rwTick.f k x3).bind fun t211 => ((spec_rwPairs.f k t211).bind fun t212 => (spec_pzValue.l2 k x1 t211 (wrap64 (x9 + 1)) t212))) else ((spec_rwTick.f k x3).bind fun t215 => ((spec_rwPairs.f k t215).bind fun t216 => (spec_pzValue.l2 k x1 t215 x9 t216)))
end
def spec_pzValue.f (k : Nat) (a0 : Int) (a1 : Int) (a2 : Int) (a3 : ByteArray) : Option (Int) := if a0 = 0 then (spec_pzValue.l0 k a1 a2 a3 0) else (if a0 = 1 then (spec_pzValue.l1 k a3 0 0) else (if a0 = 2 then ((spec_rwRest.f k a3).bind fun bt201 => (some bt201.2)) else (if a0 = 3 then ((spec_rwPairs.f k a3).bind fun t203 => (some (t203.length : Int))) else ((spec_rwPairs.f k a3).bind fun t206 => (spec_pzValue.l2 k a1 a3 0 t206)))))
theorem spec_pzValue.mono_l : ∀ k, (∀ y0 y1 y2 y3, LeO (spec_pzValue.l0 k y0 y1 y2 y3) (spec_pzValue.l0 (k + 1) y0 y1 y2 y3)) ∧ (∀ y0 y1 y2, LeO (spec_pzValue.l1 k y0 y1 y2) (spec_pzValue.l1 (k + 1) y0 y1 y2)) ∧ (∀ y0 y1 y2 y3, LeO (spec_pzValue.l2 k y0 y1 y2 y3) (spec_pzValue.l2 (k + 1) y0 y1 y2 y3)) ∧ (∀ y0 y1 y2 y3, LeO (spec_pzValue.j3 k y0 y1 y2 y3) (spec_pzValue.j3 (k + 1) y0 y1 y2 y3))
  | 0 => ⟨fun _ _ _ _ r h => by simp [spec_pzValue.l0] at h, fun _ _ _ r h => by simp [spec_pzValue.l1] at h, fun _ _ _ _ r h => by simp [spec_pzValue.l2] at h, fun _ _ _ _ r h => by simp [spec_pzValue.j3] at h⟩
  | k + 1 => by
    obtain ⟨ih0, ih1, ih2, ih3⟩ := spec_pzValue.mono_l k
    refine ⟨?q0, ?q1, ?q2, ?q3⟩
    case' q0 => (intros; unfold spec_pzValue.l0)
    case' q1 => (intros; unfold spec_pzValue.l1)
    case' q2 => (intros; unfold spec_pzValue.l2)
    case' q3 => (intros; unfold spec_pzValue.j3)
    all_goals repeat' first
     | (with_reducible exact ih0 _ _ _ _)
     | (with_reducible exact ih1 _ _ _)
     | (with_reducible exact ih2 _ _ _ _)
     | (with_reducible exact ih3 _ _ _ _)
     | (with_reducible exact spec_l1Has.mono _ _ _)
     | (with_reducible exact spec_rwPairs.mono _ _)
     | (with_reducible exact spec_rwRest.mono _ _)
     | (with_reducible exact spec_rwTick.mono _ _)
     | (with_reducible exact LeO.refl _)
     | (with_reducible exact LeO.none _)
     | (with_reducible refine LeO.ite ?_ ?_)
     | (with_reducible refine LeO.bind ?_ (fun _ => ?_))
     | exact ih0 _ _ _ _
     | exact ih1 _ _ _
     | exact ih2 _ _ _ _
     | exact ih3 _ _ _ _
     | exact spec_l1Has.mono _ _ _
     | exact spec_rwPairs.mono _ _
     | exact spec_rwRest.mono _ _
     | exact spec_rwTick.mono _ _
     | exact LeO.none _
     | refine LeO.ite ?_ ?_
     | refine LeO.bind ?_ (fun _ => ?_)
theorem spec_pzValue.mono : ∀ a0 a1 a2 a3 k, LeO (spec_pzValue.f k a0 a1 a2 a3) (spec_pzValue.f (k + 1) a0 a1 a2 a3) := by
  intro a0 a1 a2 a3 k
  obtain ⟨ih0, ih1, ih2, ih3⟩ := spec_pzValue.mono_l k
  unfold spec_pzValue.f
  repeat' first
      | (with_reducible exact ih0 _ _ _ _)
      | (with_reducible exact ih1 _ _ _)
      | (with_reducible exact ih2 _ _ _ _)
      | (with_reducible exact ih3 _ _ _ _)
      | (with_reducible exact spec_l1Has.mono _ _ _)
      | (with_reducible exact spec_rwPairs.mono _ _)
      | (with_reducible exact spec_rwRest.mono _ _)
      | (with_reducible exact spec_rwTick.mono _ _)
      | (with_reducible exact LeO.refl _)
      | (with_reducible exact LeO.none _)
      | (with_reducible refine LeO.ite ?_ ?_)
      | (with_reducible refine LeO.bind ?_ (fun _ => ?_))
      | exact ih0 _ _ _ _
      | exact ih1 _ _ _
      | exact ih2 _ _ _ _
      | exact ih3 _ _ _ _
      | exact spec_l1Has.mono _ _ _
      | exact spec_rwPairs.mono _ _
      | exact spec_rwRest.mono _ _
      | exact spec_rwTick.mono _ _
      | exact LeO.none _
      | refine LeO.ite ?_ ?_
      | refine LeO.bind ?_ (fun _ => ?_)
set_option maxHeartbeats 8000000 in
set_option maxRecDepth 100000 in
theorem spec_pzValue.calls (k : Nat) (a0 : Int) (a1 : Int) (a2 : Int) (a3 : ByteArray) (r : Int) (w : World) (h : spec_pzValue.f k a0 a1 a2 a3 = some r) :
  Calls Tryz.prog 72 #[.int .i64 a0, .int .i64 a1, .int .i64 a2, .string a3] w fun e w' => e = .returned (.int .i64 r) ∧ Below w.heap.size w w' := by
 have HB := Aside0.mk (Below.refl w.heap.size w)
 unfold spec_pzValue.f at h
 have H := h
 clear h
 by_cases c5 : a0 = 0
 ·rw [if_pos c5] at H
  have c5b0 : (a0 == 0) = true := beq_iff_eq.mpr c5
  have c5b1 : (a0 != 0) = false := bne_eq_false_iff_eq.mpr c5
  clear c5
  have H' := Aside0.mk H
  clear H
  go_enter Tryz.func72, Tryz.ntmps72
  go_wp2
  go_loopg [2, 3] k (fun kq v2 v3 w' => ∃ (x2_1 : Int) (x3_1 : ByteArray), v2 = .int .i64 x2_1 ∧ v3 = .string x3_1 ∧ Aside0 (spec_pzValue.l0 kq a1 x2_1 x3_1 0 = some r) ∧ Aside0 (kq ≤ k) ∧ Aside0 (Below w.heap.size w w'))
  case atStart => exact ⟨(a2), (a3), (rs), (rs), H', ⟨Nat.le_refl _⟩, ⟨bw⟩⟩
  case round =>
   clear H'
   try clear p2
   try clear c5
   try clear c5b0
   try clear c5b1
   obtain ⟨x2_1, x3_1, rfl, rfl, HA, HK1, HB⟩ := hrel
   cases gk with
   | zero => exact absurd HA.out (by simp [spec_pzValue.l0])
   | succ k1 =>
    have H := HA.out
    clear HA
    simp only [spec_pzValue.l0] at H
    by_cases c6 : x2_1 > 0
    ·rw [if_pos c6] at H
     have c6b0 := decide_eq_true c6
     clear c6
     obtain ⟨t200, A7, H⟩ := ob H
     (try dsimp only at H)
     have H' := Aside0.mk H
     clear H
     go_wp2_with (first | ((with_reducible refine gc 93 ?_); refine gl (some 40) Tryz.func93 #[.string x3_1] ?_; (with_reducible refine (spec_rwTick.calls k1 x3_1 t200 _ A7.out).mono ?_); rintro e w8 ⟨rfl, hb⟩; refine ⟨_, rfl, ?_⟩; replace HB := bs hb; (try clear hb)))
     go_roundg k1
     case measure => have := HK1.out; omega
     case rel => exact ⟨(wrap64 (x2_1 - 1)), (t200), (rs), (rs), H', ⟨by have := HK1.out; omega⟩, ⟨bw⟩⟩
    rw [if_neg c6] at H
    have c6b0 := decide_eq_false c6
    clear c6
    obtain ⟨c9, H⟩ := oi H
    have c9b0 := decide_eq_true c9
    clear c9
    obtain ⟨c10, H⟩ := oi H
    have c10b0 := decide_eq_true c10
    clear c10
    by_cases c12 : (bt x3_1 a1) = 62
    ·rw [if_pos c12] at H
     have c12b0 : ((bt x3_1 a1) == 62) = true := beq_iff_eq.mpr c12
     have c12b1 : ((bt x3_1 a1) != 62) = false := bne_eq_false_iff_eq.mpr c12
     clear c12
     obtain rfl := Option.some.inj H
     have p11 : 0 ≤ (a1 : Int) := of_decide_eq_true asm
     have q11 : a1 < (x3_1.size : Int) := of_decide_eq_true asm
     have hx11 := bt_at x3_1 a1
     replace p11 := eq_true p11
     replace q11 := eq_true q11
     go_wp2
     go_ret
     exact ⟨rs, bw⟩
    rw [if_neg c12] at H
    have c12b0 : ((bt x3_1 a1) == 62) = false := beq_eq_false_iff_ne.mpr c12
    have c12b1 : ((bt x3_1 a1) != 62) = true := bne_iff_ne.mpr c12
    obtain rfl := Option.some.inj H
    have p11 : 0 ≤ (a1 : Int) := of_decide_eq_true asm
    have q11 : a1 < (x3_1.size : Int) := of_decide_eq_true asm
    have hx11 := bt_at x3_1 a1
    replace p11 := eq_true p11
    replace q11 := eq_true q11
    go_wp2
    go_ret
    exact ⟨rs, bw⟩
 rw [if_neg c5] at H
 have c5b0 : (a0 == 0) = false := beq_eq_false_iff_ne.mpr c5
 have c5b1 : (a0 != 0) = true := bne_iff_ne.mpr c5
 by_cases c13 : a0 = 1
 ·rw [if_pos c13] at H
  have c13b0 : (a0 == 1) = true := beq_iff_eq.mpr c13
  have c13b1 : (a0 != 1) = false := bne_eq_false_iff_eq.mpr c13
  clear c13
  have H' := Aside0.mk H
  clear H
  go_enter Tryz.func72, Tryz.ntmps72
  go_wp2
  go_loopg [9, 10] k (fun kq v9 v10 w' => ∃ (x9_1 : Int) (x10_1 : Int), v9 = .int .i64 x9_1 ∧ v10 = .int .i64 x10_1 ∧ Aside0 (spec_pzValue.l1 kq a3 x9_1 x10_1 = some r) ∧ Aside0 (kq ≤ k) ∧ Aside0 (Below w.heap.size w w'))
  case atStart => exact ⟨(0), (0), (rs), (rs), H', ⟨Nat.le_refl _⟩, ⟨bw⟩⟩
  case round =>
   clear H'
   try clear c1
   try clear p1
   try clear q1
   try clear hx1
   try clear p2
   try clear c5
   try clear c5b0
   try clear c5b1
   try clear c6
   try clear c6b0
   try clear p6
   try clear c7
   try clear c9
   try clear c9b0
   try clear c10
   try clear c10b0
   try clear p11
   try clear q11
   try clear hx11
   try clear c12
   try clear c12b0
   try clear c12b1
   try clear c13
   try clear c13b0
   try clear c13b1
   try clear p11
   try clear p2
   try clear q11
   obtain ⟨x9_1, x10_1, rfl, rfl, HA, HK1, HB⟩ := hrel
   cases gk with
   | zero => exact absurd HA.out (by simp [spec_pzValue.l1])
   | succ k1 =>
    have H := HA.out
    clear HA
    simp only [spec_pzValue.l1] at H
    by_cases c14 : x10_1 < (a3.size : Int)
    ·rw [if_pos c14] at H
     have c14b0 := decide_eq_true c14
     clear c14
     obtain ⟨c15, H⟩ := oi H
     have c15b0 := decide_eq_true c15
     clear c15
     by_cases c17 : (bt a3 x10_1) = 62
     ·rw [if_pos c17] at H
      have c17b0 : ((bt a3 x10_1) == 62) = true := beq_iff_eq.mpr c17
      have c17b1 : ((bt a3 x10_1) != 62) = false := bne_eq_false_iff_eq.mpr c17
      clear c17
      have H' := Aside0.mk H
      clear H
      have p16 : 0 ≤ (x10_1 : Int) := of_decide_eq_true asm
      have q16 : x10_1 < (a3.size : Int) := of_decide_eq_true asm
      have hx16 := bt_at a3 x10_1
      replace p16 := eq_true p16
      replace q16 := eq_true q16
      go_wp2
      go_roundg k1
      case measure => have := HK1.out; omega
      case rel => exact ⟨(wrap64 (x9_1 + 1)), (wrap64 (x10_1 + 1)), (rs), (rs), H', ⟨by have := HK1.out; omega⟩, ⟨bw⟩⟩
     rw [if_neg c17] at H
     have c17b0 : ((bt a3 x10_1) == 62) = false := beq_eq_false_iff_ne.mpr c17
     have c17b1 : ((bt a3 x10_1) != 62) = true := bne_iff_ne.mpr c17
     have H' := Aside0.mk H
     clear H
     have p16 : 0 ≤ (x10_1 : Int) := of_decide_eq_true asm
     have q16 : x10_1 < (a3.size : Int) := of_decide_eq_true asm
     have hx16 := bt_at a3 x10_1
     replace p16 := eq_true p16
     replace q16 := eq_true q16
     go_wp2
     go_roundg k1
     case measure => have := HK1.out; omega
     case rel => exact ⟨(x9_1), (wrap64 (x10_1 + 1)), (rs), (rs), H', ⟨by have := HK1.out; omega⟩, ⟨bw⟩⟩
    rw [if_neg c14] at H
    have c14b0 := decide_eq_false c14
    clear c14
    obtain rfl := Option.some.inj H
    go_wp2
    go_ret
    exact ⟨rs, bw⟩
 rw [if_neg c13] at H
 have c13b0 : (a0 == 1) = false := beq_eq_false_iff_ne.mpr c13
 have c13b1 : (a0 != 1) = true := bne_iff_ne.mpr c13
 by_cases c18 : a0 = 2
 ·rw [if_pos c18] at H
  have c18b0 : (a0 == 2) = true := beq_iff_eq.mpr c18
  have c18b1 : (a0 != 2) = false := bne_eq_false_iff_eq.mpr c18
  clear c18
  obtain ⟨⟨t201, t202⟩, A19, H⟩ := ob H
  (try dsimp only at H)
  obtain rfl := Option.some.inj H
  go_enter Tryz.func72, Tryz.ntmps72
  go_wp2_with (first | ((with_reducible refine gc 94 ?_); refine gl (some 63) Tryz.func94 #[.string a3] ?_; (with_reducible refine (spec_rwRest.calls k a3 t201 t202 _ A19.out).mono ?_); rintro e w20 ⟨rfl, hb⟩; refine ⟨_, rfl, ?_⟩; replace HB := bs hb; (try clear hb)))
  go_ret
  exact ⟨rs, bw⟩
 rw [if_neg c18] at H
 have c18b0 : (a0 == 2) = false := beq_eq_false_iff_ne.mpr c18
 have c18b1 : (a0 != 2) = true := bne_iff_ne.mpr c18
 by_cases c21 : a0 = 3
 ·rw [if_pos c21] at H
  have c21b0 : (a0 == 3) = true := beq_iff_eq.mpr c21
  have c21b1 : (a0 != 3) = false := bne_eq_false_iff_eq.mpr c21
  clear c21
  obtain ⟨t203, A22, H⟩ := ob H
  (try dsimp only at H)
  obtain rfl := Option.some.inj H
  go_enter Tryz.func72, Tryz.ntmps72
  go_wp2_with (first | ((with_reducible refine gc 95 ?_); refine gl (some 69) Tryz.func95 #[.string a3] ?_; (with_reducible refine (spec_rwPairs.calls k a3 t203 _ A22.out).mono ?_); rintro e w23 ⟨v204, rfl, ho0, hb⟩; refine ⟨_, rfl, ?_⟩; have HO205 := Aside0.mk (Kd.R_lower ho0 (below_size bw)); replace HB := bs hb; (try clear hb); (try clear ho0); obtain ⟨Ao24, co24, eo24⟩ := Kd.R_slice HO205.out; subst eo24))
  go_ret
  exact ⟨rs, bw⟩
 rw [if_neg c21] at H
 have c21b0 : (a0 == 3) = false := beq_eq_false_iff_ne.mpr c21
 have c21b1 : (a0 != 3) = true := bne_iff_ne.mpr c21
 obtain ⟨t206, A25, H⟩ := ob H
 (try dsimp only at H)
 have H' := Aside0.mk H
 clear H
 go_enter Tryz.func72, Tryz.ntmps72
 go_wp2_with (first | ((with_reducible refine gc 95 ?_); refine gl (some 14) Tryz.func95 #[.string a3] ?_; (with_reducible refine (spec_rwPairs.calls k a3 t206 _ A25.out).mono ?_); rintro e w26 ⟨v207, rfl, ho0, hb⟩; refine ⟨_, rfl, ?_⟩; have HO208 := Aside0.mk (Kd.R_lower ho0 (below_size bw)); replace HB := bs hb; (try clear hb); (try clear ho0)))
 go_loopg [3, 9, 11] k (fun kq v3 v9 v11 w' => ∃ (x3_1 : ByteArray) (x9_1 : Int) (x11_1 : List Int), v3 = .string x3_1 ∧ v9 = .int .i64 x9_1 ∧ Aside0 (spec_pzValue.l2 kq a1 x3_1 x9_1 x11_1 = some r) ∧ Aside0 (kq ≤ k) ∧ Aside0 (Kd.R (Kd.int .i64) 3 w' w.heap.size (fun _ => True) v11 x11_1) ∧ Aside0 (Below w.heap.size w w'))
 case atStart => exact ⟨(a3), (0), (t206), (rs), (rs), H', ⟨Nat.le_refl _⟩, ⟨pr HO208⟩, ⟨bw⟩⟩
 case round =>
  clear H'
  try clear c1
  try clear p1
  try clear q1
  try clear hx1
  try clear c2
  try clear p2
  try clear c5
  try clear c5b0
  try clear c5b1
  try clear c6
  try clear c6b0
  try clear p6
  try clear c7
  try clear c9
  try clear c9b0
  try clear c10
  try clear c10b0
  try clear p11
  try clear q11
  try clear hx11
  try clear c12
  try clear c12b0
  try clear c12b1
  try clear c13
  try clear c13b0
  try clear c13b1
  try clear c14
  try clear c14b0
  try clear c15
  try clear c15b0
  try clear p16
  try clear q16
  try clear hx16
  try clear c17
  try clear c17b0
  try clear c17b1
  try clear c18
  try clear c18b0
  try clear c18b1
  try clear c21
  try clear c21b0
  try clear c21b1
  try clear p1
  try clear p11
  try clear p16
  try clear p2
  try clear p6
  try clear q1
  try clear q11
  try clear q16
  obtain ⟨x3_1, x9_1, x11_1, rfl, rfl, HA, HK1, HO_11, HB⟩ := hrel
  cases gk with
  | zero => exact absurd HA.out (by simp [spec_pzValue.l2])
  | succ k1 =>
   have H := HA.out
   clear HA
   simp only [spec_pzValue.l2] at H
   by_cases c27 : (x11_1.length : Int) > 0
   ·rw [if_pos c27] at H
    have c27b0 := decide_eq_true c27
    have c27b1 : decide (0 < x11_1.length) = true := decide_eq_true (by omega)
    clear c27
    have HC28 := Aside0.mk H
    clear H
    obtain ⟨Ao29, co29, eo29⟩ := Kd.R_slice HO_11.out
    subst eo29
    go_upto_region 6 with (fail)
    go_cut [28] (fun v28 wc => ∃ (kq : Nat) (x28_27 : Bool), v28 = .bool x28_27 ∧ Aside0 (spec_pzValue.j3 kq a1 x3_1 x9_1 x28_27 = some r) ∧ Aside0 (kq ≤ k1) ∧ Aside0 (Below w.heap.size w wc))
    case first =>
     have H := HC28.out
     clear HC28
     obtain ⟨t209, A30, H⟩ := ob H
     (try dsimp only at H)
     by_cases c31 : t209 = true
     ·subst c31
      rw [if_pos rfl] at H
      have H' := Aside0.mk H
      clear H
      go_wp2_with (first | ((with_reducible refine gc 96 ?_); refine gl (some 22) Tryz.func96 #[.slice Ao29 x11_1.length co29, .int .i64 a1] ?_; (with_reducible refine (spec_l1Has.calls k1 _ _ x11_1 a1 true _ ?_ ?_ A30.out).mono ?_); exact rr HO_11; exact rn HO_11; rintro e w' ⟨rfl, ⟨nd, rfl⟩⟩; refine ⟨_, rfl, ?_⟩))
      go_meet
      case rel => exact ⟨_, (true), (rs), H', ⟨by have := HK1.out; first | omega | exact Nat.le_refl _⟩, ⟨bw⟩⟩
     replace c31 := Bool.eq_false_iff.mpr c31
     subst c31
     rw [if_neg (show ¬ (false = true) by decide)] at H
     obtain ⟨t210, A32, H⟩ := ob H
     (try dsimp only at H)
     have H' := Aside0.mk H
     clear H
     go_wp2_with (first | ((with_reducible refine gc 96 ?_); refine gl (some 22) Tryz.func96 #[.slice Ao29 x11_1.length co29, .int .i64 a1] ?_; (with_reducible refine (spec_l1Has.calls k1 _ _ x11_1 a1 false _ ?_ ?_ A30.out).mono ?_); exact rr HO_11; exact rn HO_11; rintro e w' ⟨rfl, ⟨nd, rfl⟩⟩; refine ⟨_, rfl, ?_⟩) | (go_at_call 96; (with_reducible refine (spec_l1Has.calls k1 _ _ x11_1 (wrap64 (a1 - 1)) t210 _ ?_ ?_ A32.out).mono ?_); exact rr HO_11; exact rn HO_11; rintro e w' ⟨rfl, ⟨nd, rfl⟩⟩))
     go_meet
     case rel => exact ⟨_, (t210), (rs), H', ⟨by have := HK1.out; first | omega | exact Nat.le_refl _⟩, ⟨bw⟩⟩
    case rest =>
     clear HC28
     try clear c1
     try clear p1
     try clear q1
     try clear hx1
     try clear c2
     try clear p2
     try clear c3
     try clear c5
     try clear c5b0
     try clear c5b1
     try clear c6
     try clear c6b0
     try clear p6
     try clear c7
     try clear c9
     try clear c9b0
     try clear c10
     try clear c10b0
     try clear p11
     try clear q11
     try clear hx11
     try clear c12
     try clear c12b0
     try clear c12b1
     try clear c13
     try clear c13b0
     try clear c13b1
     try clear c14
     try clear c14b0
     try clear c15
     try clear c15b0
     try clear p16
     try clear q16
     try clear hx16
     try clear c17
     try clear c17b0
     try clear c17b1
     try clear c18
     try clear c18b0
     try clear c18b1
     try clear c21
     try clear c21b0
     try clear c21b1
     try clear c27
     try clear c27b0
     try clear c27b1
     try clear c31
     try clear p1
     try clear p11
     try clear p16
     try clear p2
     try clear p6
     try clear q1
     try clear q11
     try clear q16
     obtain ⟨kq, x28_27, rfl, HA, HJ27, HB⟩ := hcut
     cases kq with
     | zero => exact absurd HA.out (by simp [spec_pzValue.j3])
     | succ kj27 =>
      have H := HA.out
      clear HA
      simp only [spec_pzValue.j3] at H
      by_cases c33 : x28_27 = true
      ·subst c33
       rw [if_pos rfl] at H
       obtain ⟨t211, A34, H⟩ := ob H
       (try dsimp only at H)
       obtain ⟨t212, A35, H⟩ := ob H
       (try dsimp only at H)
       have H' := Aside0.mk H
       clear H
       go_wp2_with (first | ((with_reducible refine gc 93 ?_); refine gl (some 32) Tryz.func93 #[.string x3_1] ?_; (with_reducible refine (spec_rwTick.calls kj27 x3_1 t211 _ A34.out).mono ?_); rintro e w36 ⟨rfl, hb⟩; refine ⟨_, rfl, ?_⟩; replace HB := bs hb; (try clear hb)) | ((with_reducible refine gc 95 ?_); refine gl (some 19) Tryz.func95 #[.string t211] ?_; (with_reducible refine (spec_rwPairs.calls kj27 t211 t212 _ A35.out).mono ?_); rintro e w37 ⟨v213, rfl, ho0, hb⟩; refine ⟨_, rfl, ?_⟩; have HO214 := Aside0.mk (Kd.R_lower ho0 (below_size bw)); replace HB := bs hb; (try clear hb); (try clear ho0)))
       go_roundg kj27
       case measure => have := HK1.out; have := HJ27.out; omega
       case rel => exact ⟨(t211), (wrap64 (x9_1 + 1)), (t212), (rs), (rs), H', ⟨by have := HK1.out; have := HJ27.out; omega⟩, ⟨pr HO214⟩, ⟨bw⟩⟩
      replace c33 := Bool.eq_false_iff.mpr c33
      subst c33
      rw [if_neg (show ¬ (false = true) by decide)] at H
      obtain ⟨t215, A38, H⟩ := ob H
      (try dsimp only at H)
      obtain ⟨t216, A39, H⟩ := ob H
      (try dsimp only at H)
      have H' := Aside0.mk H
      clear H
      go_wp2_with (first | ((with_reducible refine gc 93 ?_); refine gl (some 32) Tryz.func93 #[.string x3_1] ?_; (with_reducible refine (spec_rwTick.calls kj27 x3_1 t215 _ A38.out).mono ?_); rintro e w40 ⟨rfl, hb⟩; refine ⟨_, rfl, ?_⟩; replace HB := bs hb; (try clear hb)) | ((with_reducible refine gc 95 ?_); refine gl (some 19) Tryz.func95 #[.string t215] ?_; (with_reducible refine (spec_rwPairs.calls kj27 t215 t216 _ A39.out).mono ?_); rintro e w41 ⟨v217, rfl, ho0, hb⟩; refine ⟨_, rfl, ?_⟩; have HO218 := Aside0.mk (Kd.R_lower ho0 (below_size bw)); replace HB := bs hb; (try clear hb); (try clear ho0)))
      go_roundg kj27
      case measure => have := HK1.out; have := HJ27.out; omega
      case rel => exact ⟨(t215), (x9_1), (t216), (rs), (rs), H', ⟨by have := HK1.out; have := HJ27.out; omega⟩, ⟨pr HO218⟩, ⟨bw⟩⟩
   rw [if_neg c27] at H
   have c27b0 := decide_eq_false c27
   have c27b1 : decide (0 < x11_1.length) = false := decide_eq_false (by omega)
   clear c27
   obtain rfl := Option.some.inj H
   obtain ⟨Ao42, co42, eo42⟩ := Kd.R_slice HO_11.out
   subst eo42
   go_wp2
   go_ret
   exact ⟨rs, bw⟩

/-! ### spec_pzOf: function 46 -/
def spec_pzOf.j0 : Nat → Int → Int → ByteArray → Bool → Int → Int → Int → Int → Option (Int × Int × Int × Int)
  | 0, _, _, _, _, _, _, _, _ => none
  | k + 1, x0, x1, x2, x15, x221000, x221001, x221002, x221003 => if x15 = true then (if (x2.size : Int) = 0 then (none) else (if x0 = 0 then ((spec_pzValue.f k x0 (Int.tmod x1 (x2.size : Int)) (Int.tmod (wrap64 (Int.tdiv x1 11)) 4) x2).bind fun t221 => (some (x221000, Int.tmod x1 (x2.size : Int), Int.tmod (wrap64 (Int.tdiv x1 11)) 4, t221))) else ((spec_pzValue.f k x0 (Int.tmod x1 (x2.size : Int)) x221002 x2).bind fun t222 => (some (x221000, Int.tmod x1 (x2.size : Int), x221002, t222))))) else (if x0 = 0 then ((spec_pzValue.f k x0 x221001 (Int.tmod (wrap64 (Int.tdiv x1 11)) 4) x2).bind fun t223 => (some (x221000, x221001, Int.tmod (wrap64 (Int.tdiv x1 11)) 4, t223))) else ((spec_pzValue.f k x0 x221001 x221002 x2).bind fun t224 => (some (x221000, x221001, x221002, t224))))
def spec_pzOf.f (k : Nat) (a0 : Int) (a1 : Int) (a2 : ByteArray) : Option (Int × Int × Int × Int) := if a0 = 0 then (spec_pzOf.j0 k a0 a1 a2 true a0 0 0 0) else (spec_pzOf.j0 k a0 a1 a2 (a0 == 4) a0 0 0 0)
theorem spec_pzOf.mono_l : ∀ k, (∀ y0 y1 y2 y3 y4 y5 y6 y7, LeO (spec_pzOf.j0 k y0 y1 y2 y3 y4 y5 y6 y7) (spec_pzOf.j0 (k + 1) y0 y1 y2 y3 y4 y5 y6 y7))
  | 0 => fun _ _ _ _ _ _ _ _ r h => by simp [spec_pzOf.j0] at h
  | k + 1 => by
    have ih0 := spec_pzOf.mono_l k
    · intro y0 y1 y2 y3 y4 y5 y6 y7
      unfold spec_pzOf.j0
      repeat' first
      | (with_reducible exact ih0 _ _ _ _ _ _ _ _)
      | (with_reducible exact spec_pzValue.mono _ _ _ _ _)
      | (with_reducible exact LeO.refl _)
      | (with_reducible exact LeO.none _)
      | (with_reducible refine LeO.ite ?_ ?_)
      | (with_reducible refine LeO.bind ?_ (fun _ => ?_))
      | exact ih0 _ _ _ _ _ _ _ _
      | exact spec_pzValue.mono _ _ _ _ _
      | exact LeO.none _
      | refine LeO.ite ?_ ?_
      | refine LeO.bind ?_ (fun _ => ?_)
theorem spec_pzOf.mono : ∀ a0 a1 a2 k, LeO (spec_pzOf.f k a0 a1 a2) (spec_pzOf.f (k + 1) a0 a1 a2) := by
  intro a0 a1 a2 k
  have ih0 := spec_pzOf.mono_l k
  unfold spec_pzOf.f
  repeat' first
      | (with_reducible exact ih0 _ _ _ _ _ _ _ _)
      | (with_reducible exact spec_pzValue.mono _ _ _ _ _)
      | (with_reducible exact LeO.refl _)
      | (with_reducible exact LeO.none _)
      | (with_reducible refine LeO.ite ?_ ?_)
      | (with_reducible refine LeO.bind ?_ (fun _ => ?_))
      | exact ih0 _ _ _ _ _ _ _ _
      | exact spec_pzValue.mono _ _ _ _ _
      | exact LeO.none _
      | refine LeO.ite ?_ ?_
      | refine LeO.bind ?_ (fun _ => ?_)
set_option maxHeartbeats 8000000 in
set_option maxRecDepth 100000 in
theorem spec_pzOf.calls (k : Nat) (a0 : Int) (a1 : Int) (a2 : ByteArray) (r1 : Int) (r2 : Int) (r3 : Int) (r4 : Int) (w : World) (h : spec_pzOf.f k a0 a1 a2 = some (r1, r2, r3, r4)) :
  Calls Tryz.prog 46 #[.int .i64 a0, .int .i64 a1, .string a2] w fun e w' => e = .returned (.agg #[.int .i64 r1, .int .i64 r2, .int .i64 r3, .int .i64 r4]) ∧ Below w.heap.size w w' := by
 have hu37 := Tryz.underlying37
 have HB := Aside0.mk (Below.refl w.heap.size w)
 unfold spec_pzOf.f at h
 have H := h
 clear h
 have HC4 := Aside0.mk H
 clear H
 go_enter Tryz.func46, Tryz.ntmps46
 go_upto_region 2 with (first | ((with_reducible refine gd 6 ?_); refine bx 6 37 #[.int .i64 0, .int .i64 0, .int .i64 0, .int .i64 0] ?_; intro gb219 hg w5 hbox hb; have BK219 := hbox; have GW219 := gs hg; have GE219 := gs hg; replace HB := bs hb; clear hb hbox hg) | ((with_reducible refine gd 7 ?_); refine bx 7 37 #[.int .i64 0, .int .i64 0, .int .i64 0, .int .i64 0] ?_; intro gb220 hg w6 hbox hb; have BK220 := hbox; have GW220 := gs hg; have GE220 := gs hg; replace HB := bs hb; have ⟨NB219_220, NB220_219⟩ := nn BK219 hg; replace BK219 := nk BK219 hb; clear hb hbox hg; have hnb7 := nb NB220_219; obtain ⟨hcz8_0, hcz8_1, hcz8_2, hcz8_3, hfz8_0, hfz8_1, hfz8_2, hfz8_3⟩ := z4 BK220))
 (try simp only [Act.put, List.setIfInBounds_toArray, List.set_cons_zero, List.set_cons_succ])
 go_cut [15] (fun v15 wc => ∃ (kq : Nat) (x15_3 : Bool), v15 = .bool x15_3 ∧ Aside0 (spec_pzOf.j0 kq a0 a1 a2 x15_3 a0 0 0 0 = some (r1, r2, r3, r4)) ∧ Aside0 (kq ≤ k) ∧ Aside0 (wc.heap[gb219]? = some (.cells #[.int .i64 0, .int .i64 0, .int .i64 0, .int .i64 0] 37 (0, 0))) ∧ Aside0 (wc.heap[gb220]? = some (.cells #[.int .i64 a0, .int .i64 0, .int .i64 0, .int .i64 0] 37 (0, 0))) ∧ Aside0 (Below w.heap.size w wc))
 case first =>
  have H := HC4.out
  clear HC4
  by_cases c9 : a0 = 0
  ·rw [if_pos c9] at H
   have c9b0 : (a0 == 0) = true := beq_iff_eq.mpr c9
   have c9b1 : (a0 != 0) = false := bne_eq_false_iff_eq.mpr c9
   clear c9
   (first | rw [c9b0] | rw [@decide_eq_true _ _ (of_decide_eq_true c9b1)] | rw [@decide_eq_false _ _ (of_decide_eq_false c9b1)] | (simp only [i64_w, i32_w]; rw [c9b0]) | skip)
   have H' := Aside0.mk H
   clear H
   go_wp2
   go_meet
   case rel => exact ⟨_, (true), (rs), H', ⟨by first | omega | exact Nat.le_refl _⟩, ⟨pf BK219⟩, ⟨pz BK220⟩, ⟨bw⟩⟩
  rw [if_neg c9] at H
  have c9b0 : (a0 == 0) = false := beq_eq_false_iff_ne.mpr c9
  have c9b1 : (a0 != 0) = true := bne_iff_ne.mpr c9
  (first | rw [c9b0] | rw [@decide_eq_true _ _ (of_decide_eq_true c9b1)] | rw [@decide_eq_false _ _ (of_decide_eq_false c9b1)] | (simp only [i64_w, i32_w]; rw [c9b0]) | skip)
  have H' := Aside0.mk H
  clear H
  go_wp2
  go_meet
  case rel => exact ⟨_, ((a0 == 4)), (rs), H', ⟨by first | omega | exact Nat.le_refl _⟩, ⟨pf BK219⟩, ⟨pz BK220⟩, ⟨bw⟩⟩
 case rest =>
  clear HC4
  try clear p2
  try clear c4
  try clear c7
  try clear c9
  try clear c9b0
  try clear c9b1
  try clear hcz8_0
  try clear hcz8_1
  try clear hcz8_2
  try clear hcz8_3
  try clear hfz8_0
  try clear hfz8_1
  try clear hfz8_2
  try clear hfz8_3
  obtain ⟨kq, x15_3, rfl, HA, HJ3, BK219, BK220, HB⟩ := hcut
  cases kq with
  | zero => exact absurd HA.out (by simp [spec_pzOf.j0])
  | succ kj3 =>
   have H := HA.out
   clear HA
   simp only [spec_pzOf.j0] at H
   by_cases c10 : x15_3 = true
   ·subst c10
    rw [if_pos rfl] at H
    obtain ⟨c11, H⟩ := oe H
    have c11b0 : ((a2.size : Int) == 0) = false := beq_eq_false_iff_ne.mpr c11
    have c11b1 : ((a2.size : Int) != 0) = true := bne_iff_ne.mpr c11
    by_cases c12 : a0 = 0
    ·rw [if_pos c12] at H
     have c12b0 : (a0 == 0) = true := beq_iff_eq.mpr c12
     have c12b1 : (a0 != 0) = false := bne_eq_false_iff_eq.mpr c12
     clear c12
     obtain ⟨t221, A13, H⟩ := ob H
     (try dsimp only at H)
     simp only [Option.some.injEq, Prod.mk.injEq] at H
     obtain ⟨rfl, rfl, rfl, rfl⟩ := H
     have hnb14 := nb NB220_219
     have hcz15_0 : wc.cell? ⟨gb220, 0, none⟩ = some (.int .i64 a0) := ec BK220
     have hcz15_1 : wc.cell? ⟨gb220, 1, none⟩ = some (.int .i64 0) := ec BK220
     have hcz15_2 : wc.cell? ⟨gb220, 2, none⟩ = some (.int .i64 0) := ec BK220
     have hcz15_3 : wc.cell? ⟨gb220, 3, none⟩ = some (.int .i64 0) := ec BK220
     have hfz15_0 := blk_frozen BK220.out 0
     have hfz15_1 := blk_frozen BK220.out 1
     have hfz15_2 := blk_frozen BK220.out 2
     have hfz15_3 := blk_frozen BK220.out 3
     go_wp2_with (first | ((with_reducible refine gc 72 ?_); refine gl (some 33) Tryz.func72 #[.int .i64 a0, .int .i64 (Int.tmod a1 (a2.size : Int)), .int .i64 (Int.tmod (wrap64 (Int.tdiv a1 11)) 4), .string a2] ?_; (with_reducible refine (spec_pzValue.calls kj3 a0 (Int.tmod a1 (a2.size : Int)) (Int.tmod (wrap64 (Int.tdiv a1 11)) 4) a2 t221 _ A13.out).mono ?_); rintro e w16 ⟨rfl, hb⟩; refine ⟨_, rfl, ?_⟩; replace BK219 := nf BK219 hb; replace BK220 := Aside0.mk (blk_below (g := gb220) (o := .cells #[.int .i64 a0, .int .i64 (Int.tmod a1 (a2.size : Int)), .int .i64 (Int.tmod (wrap64 (Int.tdiv a1 11)) 4), .int .i64 0] 37 (0, 0)) (pz BK220) hb); replace HB := bs hb; (try clear hb); have hz17 := z4 BK220; have hz18 := z4 BK219))
     refine bodyPost_ret (results_cell_row rfl _ _ gb219 37 #[.int .i64 a0, .int .i64 (Int.tmod a1 (a2.size : Int)), .int .i64 (Int.tmod (wrap64 (Int.tdiv a1 11)) 4), .int .i64 t221] (0, 0) _ rfl (pz BK219) Tryz.underlying37 rfl (by kernel_rfl)) rfl ?_
     exact ⟨rs, bw⟩
    rw [if_neg c12] at H
    have c12b0 : (a0 == 0) = false := beq_eq_false_iff_ne.mpr c12
    have c12b1 : (a0 != 0) = true := bne_iff_ne.mpr c12
    obtain ⟨t222, A19, H⟩ := ob H
    (try dsimp only at H)
    simp only [Option.some.injEq, Prod.mk.injEq] at H
    obtain ⟨rfl, rfl, rfl, rfl⟩ := H
    have hnb20 := nb NB220_219
    have hcz21_0 : wc.cell? ⟨gb220, 0, none⟩ = some (.int .i64 a0) := ec BK220
    have hcz21_1 : wc.cell? ⟨gb220, 1, none⟩ = some (.int .i64 0) := ec BK220
    have hcz21_2 : wc.cell? ⟨gb220, 2, none⟩ = some (.int .i64 0) := ec BK220
    have hcz21_3 : wc.cell? ⟨gb220, 3, none⟩ = some (.int .i64 0) := ec BK220
    have hfz21_0 := blk_frozen BK220.out 0
    have hfz21_1 := blk_frozen BK220.out 1
    have hfz21_2 := blk_frozen BK220.out 2
    have hfz21_3 := blk_frozen BK220.out 3
    go_wp2_with (first | ((with_reducible refine gc 72 ?_); refine gl (some 33) Tryz.func72 #[.int .i64 a0, .int .i64 (Int.tmod a1 (a2.size : Int)), .int .i64 0, .string a2] ?_; (with_reducible refine (spec_pzValue.calls kj3 a0 (Int.tmod a1 (a2.size : Int)) 0 a2 t222 _ A19.out).mono ?_); rintro e w22 ⟨rfl, hb⟩; refine ⟨_, rfl, ?_⟩; replace BK219 := nf BK219 hb; replace BK220 := Aside0.mk (blk_below (g := gb220) (o := .cells #[.int .i64 a0, .int .i64 (Int.tmod a1 (a2.size : Int)), .int .i64 0, .int .i64 0] 37 (0, 0)) (pz BK220) hb); replace HB := bs hb; (try clear hb); have hz23 := z4 BK220; have hz24 := z4 BK219))
    refine bodyPost_ret (results_cell_row rfl _ _ gb219 37 #[.int .i64 a0, .int .i64 (Int.tmod a1 (a2.size : Int)), .int .i64 0, .int .i64 t222] (0, 0) _ rfl (pz BK219) Tryz.underlying37 rfl (by kernel_rfl)) rfl ?_
    exact ⟨rs, bw⟩
   replace c10 := Bool.eq_false_iff.mpr c10
   subst c10
   rw [if_neg (show ¬ (false = true) by decide)] at H
   by_cases c25 : a0 = 0
   ·rw [if_pos c25] at H
    have c25b0 : (a0 == 0) = true := beq_iff_eq.mpr c25
    have c25b1 : (a0 != 0) = false := bne_eq_false_iff_eq.mpr c25
    clear c25
    obtain ⟨t223, A26, H⟩ := ob H
    (try dsimp only at H)
    simp only [Option.some.injEq, Prod.mk.injEq] at H
    obtain ⟨rfl, rfl, rfl, rfl⟩ := H
    have hnb27 := nb NB220_219
    have hcz28_0 : wc.cell? ⟨gb220, 0, none⟩ = some (.int .i64 a0) := ec BK220
    have hcz28_1 : wc.cell? ⟨gb220, 1, none⟩ = some (.int .i64 0) := ec BK220
    have hcz28_2 : wc.cell? ⟨gb220, 2, none⟩ = some (.int .i64 0) := ec BK220
    have hcz28_3 : wc.cell? ⟨gb220, 3, none⟩ = some (.int .i64 0) := ec BK220
    have hfz28_0 := blk_frozen BK220.out 0
    have hfz28_1 := blk_frozen BK220.out 1
    have hfz28_2 := blk_frozen BK220.out 2
    have hfz28_3 := blk_frozen BK220.out 3
    go_wp2_with (first | ((with_reducible refine gc 72 ?_); refine gl (some 33) Tryz.func72 #[.int .i64 a0, .int .i64 0, .int .i64 (Int.tmod (wrap64 (Int.tdiv a1 11)) 4), .string a2] ?_; (with_reducible refine (spec_pzValue.calls kj3 a0 0 (Int.tmod (wrap64 (Int.tdiv a1 11)) 4) a2 t223 _ A26.out).mono ?_); rintro e w29 ⟨rfl, hb⟩; refine ⟨_, rfl, ?_⟩; replace BK219 := nf BK219 hb; replace BK220 := Aside0.mk (blk_below (g := gb220) (o := .cells #[.int .i64 a0, .int .i64 0, .int .i64 (Int.tmod (wrap64 (Int.tdiv a1 11)) 4), .int .i64 0] 37 (0, 0)) (pz BK220) hb); replace HB := bs hb; (try clear hb); have hz30 := z4 BK220; have hz31 := z4 BK219))
    refine bodyPost_ret (results_cell_row rfl _ _ gb219 37 #[.int .i64 a0, .int .i64 0, .int .i64 (Int.tmod (wrap64 (Int.tdiv a1 11)) 4), .int .i64 t223] (0, 0) _ rfl (pz BK219) Tryz.underlying37 rfl (by kernel_rfl)) rfl ?_
    exact ⟨rs, bw⟩
   rw [if_neg c25] at H
   have c25b0 : (a0 == 0) = false := beq_eq_false_iff_ne.mpr c25
   have c25b1 : (a0 != 0) = true := bne_iff_ne.mpr c25
   obtain ⟨t224, A32, H⟩ := ob H
   (try dsimp only at H)
   simp only [Option.some.injEq, Prod.mk.injEq] at H
   obtain ⟨rfl, rfl, rfl, rfl⟩ := H
   have hnb33 := nb NB220_219
   have hcz34_0 : wc.cell? ⟨gb220, 0, none⟩ = some (.int .i64 a0) := ec BK220
   have hcz34_1 : wc.cell? ⟨gb220, 1, none⟩ = some (.int .i64 0) := ec BK220
   have hcz34_2 : wc.cell? ⟨gb220, 2, none⟩ = some (.int .i64 0) := ec BK220
   have hcz34_3 : wc.cell? ⟨gb220, 3, none⟩ = some (.int .i64 0) := ec BK220
   have hfz34_0 := blk_frozen BK220.out 0
   have hfz34_1 := blk_frozen BK220.out 1
   have hfz34_2 := blk_frozen BK220.out 2
   have hfz34_3 := blk_frozen BK220.out 3
   go_wp2_with (first | ((with_reducible refine gc 72 ?_); refine gl (some 33) Tryz.func72 #[.int .i64 a0, .int .i64 0, .int .i64 0, .string a2] ?_; (with_reducible refine (spec_pzValue.calls kj3 a0 0 0 a2 t224 _ A32.out).mono ?_); rintro e w35 ⟨rfl, hb⟩; refine ⟨_, rfl, ?_⟩; replace BK219 := nk BK219 hb; replace BK220 := nk BK220 hb; replace HB := bs hb; (try clear hb); have hz36 := z4 BK220; have hz37 := z4 BK219))
   refine bodyPost_ret (results_cell_row rfl _ _ gb219 37 #[.int .i64 a0, .int .i64 0, .int .i64 0, .int .i64 t224] (0, 0) _ rfl (pz BK219) Tryz.underlying37 rfl (by kernel_rfl)) rfl ?_
   exact ⟨rs, bw⟩

end Go.Proofs.YthjbmojacgkdcaaGreatDoor.PFnRowsHidden
