-- Laid by xprint, a program of this session that runs over the kit's print.
import Derived.Test.YtfaakdokcldnkaaGreatDoorPFnRowsGuessedOfAllx5
namespace Go.Proofs.YtfaakdokcldnkaaGreatDoor.PFnRowsGuessedOfAll
open Go.RowKit Go.Proofs.YtfaakdokcldnkaaGreatDoorW.PrintWords Go.Proofs.YtfaakdokcldnkaaGreatDoorW.PrintLast Go.Proofs.YtfaakdokcldnkaaGreatDoorW.PrintMore Go.Proofs.YtfaakdokcldnkaaGreatDoor.Sq
attribute [local go_sem] max2_int min2_int max_two min_two max_three min_three max_four min_four   -- for this text's walks alone
set_option linter.unusedVariables false
set_option linter.unusedSimpArgs false

/-! ### spec_pzValue: function 74 -/
mutual
def spec_pzValue.l0 : Nat → Int → Int → ByteArray → Int → Option (Int)
  | 0, _, _, _, _ => none
  | k + 1, x1, x2, x3, x9 => if x2 > 0 then ((spec_rwTick.f k x3).bind fun t182 => (spec_pzValue.l0 k x1 (wrap64 (x2 - 1)) t182 x9)) else (if 0 ≤ x1 then (if x1 < (x3.size : Int) then (if (bt x3 x1) = 62 then (some 1) else (some x9)) else (none)) else (none))
def spec_pzValue.l1 : Nat → ByteArray → Int → Int → Option (Int)
  | 0, _, _, _ => none
  | k + 1, x3, x9, x10 => if x10 < (x3.size : Int) then (if 0 ≤ x10 then (if (bt x3 x10) = 62 then (spec_pzValue.l1 k x3 (wrap64 (x9 + 1)) (wrap64 (x10 + 1))) else (spec_pzValue.l1 k x3 x9 (wrap64 (x10 + 1)))) else (none)) else (some x9)
def spec_pzValue.l2 : Nat → Int → ByteArray → Int → List Int → Option (Int)
  | 0, _, _, _, _ => none
  | k + 1, x1, x3, x9, x11 => if (x11.length : Int) > 0 then ((spec_l1Has.f k x11 x1).bind fun t191 => (if t191 = true then (spec_pzValue.j3 k x1 x3 x9 true) else ((spec_l1Has.f k x11 (wrap64 (x1 - 1))).bind fun t192 => (spec_pzValue.j3 k x1 x3 x9 t192)))) else (some x9)
def spec_pzValue.j3 : Nat → Int → ByteArray → Int → Bool → Option (Int)
  | 0, _, _, _, _ => none
  | k + 1, x1, x3, x9, x28 => if x28 = true then ((spec_rwTick.f k x3).bind fun t193 => ((spec_rwPairs.f k t193).bind fun t194 => (spec_pzValue.l2 k x1 t193 (wrap64 (x9 + 1)) t194))) else ((spec_rwTick.f k x3).bind fun t197 => ((spec_rwPairs.f k t197).bind fun t198 => (spec_pzValue.l2 k x1 t197 x9 t198)))
end
def spec_pzValue.f (k : Nat) (a0 : Int) (a1 : Int) (a2 : Int) (a3 : ByteArray) : Option (Int) := if a0 = 0 then (spec_pzValue.l0 k a1 a2 a3 0) else (if a0 = 1 then (spec_pzValue.l1 k a3 0 0) else (if a0 = 2 then ((spec_rwRest.f k a3).bind fun bt183 => (some bt183.2)) else (if a0 = 3 then ((spec_rwPairs.f k a3).bind fun t185 => (some (t185.length : Int))) else ((spec_rwPairs.f k a3).bind fun t188 => (spec_pzValue.l2 k a1 a3 0 t188)))))
theorem spec_pzValue.mono_l : ∀ k, (∀ y0 y1 y2 y3, LeO (spec_pzValue.l0 k y0 y1 y2 y3) (spec_pzValue.l0 (k + 1) y0 y1 y2 y3)) ∧ (∀ y0 y1 y2, LeO (spec_pzValue.l1 k y0 y1 y2) (spec_pzValue.l1 (k + 1) y0 y1 y2)) ∧ (∀ y0 y1 y2 y3, LeO (spec_pzValue.l2 k y0 y1 y2 y3) (spec_pzValue.l2 (k + 1) y0 y1 y2 y3)) ∧ (∀ y0 y1 y2 y3, LeO (spec_pzValue.j3 k y0 y1 y2 y3) (spec_pzValue.j3 (k + 1) y0 y1 y2 y3))
  | 0 => ⟨fun _ _ _ _ r h => by simp [spec_pzValue.l0] at h, fun _ _ _ r h => by simp [spec_pzValue.l1] at h, fun _ _ _ _ r h => by simp [spec_pzValue.l2] at h, fun _ _ _ _ r h => by simp [spec_pzValue.j3] at h⟩
  | k + 1 => by
    obtain ⟨ih0, ih1, ih2, ih3⟩ := spec_pzValue.mono_l k
    refine ⟨?q0, ?q1, ?q2, ?q3⟩
    case' q0 => (intros; unfold spec_pzValue.l0)
    case' q1 => (intros; unfold spec_pzValue.l1)
    case' q2 => (intros; unfold spec_pzValue.l2)
    case' q3 => (intros; unfold spec_pzValue.j3)
    all_goals repeat' first
     | (with_reducible exact ih0 _ _ _ _)
     | (with_reducible exact ih1 _ _ _)
     | (with_reducible exact ih2 _ _ _ _)
     | (with_reducible exact ih3 _ _ _ _)
     | (with_reducible exact spec_l1Has.mono _ _ _)
     | (with_reducible exact spec_rwPairs.mono _ _)
     | (with_reducible exact spec_rwRest.mono _ _)
     | (with_reducible exact spec_rwTick.mono _ _)
     | (with_reducible exact LeO.refl _)
     | (with_reducible exact LeO.none _)
     | (with_reducible refine LeO.ite ?_ ?_)
     | (with_reducible refine LeO.bind ?_ (fun _ => ?_))
     | exact ih0 _ _ _ _
     | exact ih1 _ _ _
     | exact ih2 _ _ _ _
     | exact ih3 _ _ _ _
     | exact spec_l1Has.mono _ _ _
     | exact spec_rwPairs.mono _ _
     | exact spec_rwRest.mono _ _
     | exact spec_rwTick.mono _ _
     | exact LeO.none _
     | refine LeO.ite ?_ ?_
     | refine LeO.bind ?_ (fun _ => ?_)
theorem spec_pzValue.mono : ∀ a0 a1 a2 a3 k, LeO (spec_pzValue.f k a0 a1 a2 a3) (spec_pzValue.f (k + 1) a0 a1 a2 a3) := by
  intro a0 a1 a2 a3 k
  obtain ⟨ih0, ih1, ih2, ih3⟩ := spec_pzValue.mono_l k
  unfold spec_pzValue.f
  repeat' first
      | (with_reducible exact ih0 _ _ _ _)
      | (with_reducible exact ih1 _ _ _)
      | (with_reducible exact ih2 _ _ _ _)
      | (with_reducible exact ih3 _ _ _ _)
      | (with_reducible exact spec_l1Has.mono _ _ _)
      | (with_reducible exact spec_rwPairs.mono _ _)
      | (with_reducible exact spec_rwRest.mono _ _)
      | (with_reducible exact spec_rwTick.mono _ _)
      | (with_reducible exact LeO.refl _)
      | (with_reducible exact LeO.none _)
      | (with_reducible refine LeO.ite ?_ ?_)
      | (with_reducible refine LeO.bind ?_ (fun _ => ?_))
      | exact ih0 _ _ _ _
      | exact ih1 _ _ _
      | exact ih2 _ _ _ _
      | exact ih3 _ _ _ _
      | exact spec_l1Has.mono _ _ _
      | exact spec_rwPairs.mono _ _
      | exact spec_rwRest.mono _ _
      | exact spec_rwTick.mono _ _
      | exact LeO.none _
      | refine LeO.ite ?_ ?_
      | refine LeO.bind ?_ (fun _ => ?_)
set_option maxHeartbeats 8000000 in
set_option maxRecDepth 100000 in
theorem spec_pzValue.calls (k : Nat) (a0 : Int) (a1 : Int) (a2 : Int) (a3 : ByteArray) (r : Int) (w : World) (h : spec_pzValue.f k a0 a1 a2 a3 = some r) :
  Calls Tryz.prog 74 #[.int .i64 a0, .int .i64 a1, .int .i64 a2, .string a3] w fun e w' => e = .returned (.int .i64 r) ∧ Below w.heap.size w w' := by
 have HB := Aside0.mk (Below.refl w.heap.size w)
 unfold spec_pzValue.f at h
 have H := h
 clear h
 by_cases c5 : a0 = 0
 ·rw [if_pos c5] at H
  have c5b0 : (a0 == 0) = true := beq_iff_eq.mpr c5
  have c5b1 : (a0 != 0) = false := bne_eq_false_iff_eq.mpr c5
  clear c5
  have H' := Aside0.mk H
  clear H
  go_enter Tryz.func74, Tryz.ntmps74
  go_wp2
  go_loopg [2, 3] k (fun kq v2 v3 w' => ∃ (x2_1 : Int) (x3_1 : ByteArray), v2 = .int .i64 x2_1 ∧ v3 = .string x3_1 ∧ Aside0 (spec_pzValue.l0 kq a1 x2_1 x3_1 0 = some r) ∧ Aside0 (kq ≤ k) ∧ Aside0 (Below w.heap.size w w'))
  case atStart => exact ⟨(a2), (a3), (rs), (rs), H', ⟨Nat.le_refl _⟩, ⟨bw⟩⟩
  case round =>
   clear H'
   try clear p2
   try clear c5
   try clear c5b0
   try clear c5b1
   obtain ⟨x2_1, x3_1, rfl, rfl, HA, HK1, HB⟩ := hrel
   cases gk with
   | zero => exact absurd HA.out (by simp [spec_pzValue.l0])
   | succ k1 =>
    have H := HA.out
    clear HA
    simp only [spec_pzValue.l0] at H
    by_cases c6 : x2_1 > 0
    ·rw [if_pos c6] at H
     have c6b0 := decide_eq_true c6
     clear c6
     obtain ⟨t182, A7, H⟩ := ob H
     (try dsimp only at H)
     have H' := Aside0.mk H
     clear H
     go_wp2_with (first | ((with_reducible refine gc 99 ?_); refine gl (some 40) Tryz.func99 #[.string x3_1] ?_; (with_reducible refine (spec_rwTick.calls k1 x3_1 t182 _ A7.out).mono ?_); rintro e w8 ⟨rfl, hb⟩; refine ⟨_, rfl, ?_⟩; replace HB := bs hb; (try clear hb)))
     go_roundg k1
     case measure => have := HK1.out; omega
     case rel => exact ⟨(wrap64 (x2_1 - 1)), (t182), (rs), (rs), H', ⟨by have := HK1.out; omega⟩, ⟨bw⟩⟩
    rw [if_neg c6] at H
    have c6b0 := decide_eq_false c6
    clear c6
    obtain ⟨c9, H⟩ := oi H
    have c9b0 := decide_eq_true c9
    clear c9
    obtain ⟨c10, H⟩ := oi H
    have c10b0 := decide_eq_true c10
    clear c10
    by_cases c12 : (bt x3_1 a1) = 62
    ·rw [if_pos c12] at H
     have c12b0 : ((bt x3_1 a1) == 62) = true := beq_iff_eq.mpr c12
     have c12b1 : ((bt x3_1 a1) != 62) = false := bne_eq_false_iff_eq.mpr c12
     clear c12
     obtain rfl := Option.some.inj H
     have p11 : 0 ≤ (a1 : Int) := of_decide_eq_true asm
     have q11 : a1 < (x3_1.size : Int) := of_decide_eq_true asm
     have hx11 := bt_at x3_1 a1
     replace p11 := eq_true p11
     replace q11 := eq_true q11
     go_wp2
     go_ret
     exact ⟨rs, bw⟩
    rw [if_neg c12] at H
    have c12b0 : ((bt x3_1 a1) == 62) = false := beq_eq_false_iff_ne.mpr c12
    have c12b1 : ((bt x3_1 a1) != 62) = true := bne_iff_ne.mpr c12
    obtain rfl := Option.some.inj H
    have p11 : 0 ≤ (a1 : Int) := of_decide_eq_true asm
    have q11 : a1 < (x3_1.size : Int) := of_decide_eq_true asm
    have hx11 := bt_at x3_1 a1
    replace p11 := eq_true p11
    replace q11 := eq_true q11
    go_wp2
    go_ret
    exact ⟨rs, bw⟩
 rw [if_neg c5] at H
 have c5b0 : (a0 == 0) = false := beq_eq_false_iff_ne.mpr c5
 have c5b1 : (a0 != 0) = true := bne_iff_ne.mpr c5
 by_cases c13 : a0 = 1
 ·rw [if_pos c13] at H
  have c13b0 : (a0 == 1) = true := beq_iff_eq.mpr c13
  have c13b1 : (a0 != 1) = false := bne_eq_false_iff_eq.mpr c13
  clear c13
  have H' := Aside0.mk H
  clear H
  go_enter Tryz.func74, Tryz.ntmps74
  go_wp2
  go_loopg [9, 10] k (fun kq v9 v10 w' => ∃ (x9_1 : Int) (x10_1 : Int), v9 = .int .i64 x9_1 ∧ v10 = .int .i64 x10_1 ∧ Aside0 (spec_pzValue.l1 kq a3 x9_1 x10_1 = some r) ∧ Aside0 (kq ≤ k) ∧ Aside0 (Below w.heap.size w w'))
  case atStart => exact ⟨(0), (0), (rs), (rs), H', ⟨Nat.le_refl _⟩, ⟨bw⟩⟩
  case round =>
   clear H'
   try clear c1
   try clear p1
   try clear q1
   try clear hx1
   try clear p2
   try clear c5
   try clear c5b0
   try clear c5b1
   try clear c6
   try clear c6b0
   try clear p6
   try clear c7
   try clear c9
   try clear c9b0
   try clear c10
   try clear c10b0
   try clear p11
   try clear q11
   try clear hx11
   try clear c12
   try clear c12b0
   try clear c12b1
   try clear c13
   try clear c13b0
   try clear c13b1
   try clear p11
   try clear p2
   try clear q11
   obtain ⟨x9_1, x10_1, rfl, rfl, HA, HK1, HB⟩ := hrel
   cases gk with
   | zero => exact absurd HA.out (by simp [spec_pzValue.l1])
   | succ k1 =>
    have H := HA.out
    clear HA
    simp only [spec_pzValue.l1] at H
    by_cases c14 : x10_1 < (a3.size : Int)
    ·rw [if_pos c14] at H
     have c14b0 := decide_eq_true c14
     clear c14
     obtain ⟨c15, H⟩ := oi H
     have c15b0 := decide_eq_true c15
     clear c15
     by_cases c17 : (bt a3 x10_1) = 62
     ·rw [if_pos c17] at H
      have c17b0 : ((bt a3 x10_1) == 62) = true := beq_iff_eq.mpr c17
      have c17b1 : ((bt a3 x10_1) != 62) = false := bne_eq_false_iff_eq.mpr c17
      clear c17
      have H' := Aside0.mk H
      clear H
      have p16 : 0 ≤ (x10_1 : Int) := of_decide_eq_true asm
      have q16 : x10_1 < (a3.size : Int) := of_decide_eq_true asm
      have hx16 := bt_at a3 x10_1
      replace p16 := eq_true p16
      replace q16 := eq_true q16
      go_wp2
      go_roundg k1
      case measure => have := HK1.out; omega
      case rel => exact ⟨(wrap64 (x9_1 + 1)), (wrap64 (x10_1 + 1)), (rs), (rs), H', ⟨by have := HK1.out; omega⟩, ⟨bw⟩⟩
     rw [if_neg c17] at H
     have c17b0 : ((bt a3 x10_1) == 62) = false := beq_eq_false_iff_ne.mpr c17
     have c17b1 : ((bt a3 x10_1) != 62) = true := bne_iff_ne.mpr c17
     have H' := Aside0.mk H
     clear H
     have p16 : 0 ≤ (x10_1 : Int) := of_decide_eq_true asm
     have q16 : x10_1 < (a3.size : Int) := of_decide_eq_true asm
     have hx16 := bt_at a3 x10_1
     replace p16 := eq_true p16
     replace q16 := eq_true q16
     go_wp2
     go_roundg k1
     case measure => have := HK1.out; omega
     case rel => exact ⟨(x9_1), (wrap64 (x10_1 + 1)), (rs), (rs), H', ⟨by have := HK1.out; omega⟩, ⟨bw⟩⟩
    rw [if_neg c14] at H
    have c14b0 := decide_eq_false c14
    clear c14
    obtain rfl := Option.some.inj H
    go_wp2
    go_ret
    exact ⟨rs, bw⟩
 rw [if_neg c13] at H
 have c13b0 : (a0 == 1) = false := beq_eq_false_iff_ne.mpr c13
 have c13b1 : (a0 != 1) = true := bne_iff_ne.mpr c13
 by_cases c18 : a0 = 2
 ·rw [if_pos c18] at H
  have c18b0 : (a0 == 2) = true := beq_iff_eq.mpr c18
  have c18b1 : (a0 != 2) = false := bne_eq_false_iff_eq.mpr c18
  clear c18
  obtain ⟨⟨t183, t184⟩, A19, H⟩ := ob H
  (try dsimp only at H)
  obtain rfl := Option.some.inj H
  go_enter Tryz.func74, Tryz.ntmps74
  go_wp2_with (first | ((with_reducible refine gc 100 ?_); refine gl (some 63) Tryz.func100 #[.string a3] ?_; (with_reducible refine (spec_rwRest.calls k a3 t183 t184 _ A19.out).mono ?_); rintro e w20 ⟨rfl, hb⟩; refine ⟨_, rfl, ?_⟩; replace HB := bs hb; (try clear hb)))
  go_ret
  exact ⟨rs, bw⟩
 rw [if_neg c18] at H
 have c18b0 : (a0 == 2) = false := beq_eq_false_iff_ne.mpr c18
 have c18b1 : (a0 != 2) = true := bne_iff_ne.mpr c18
 by_cases c21 : a0 = 3
 ·rw [if_pos c21] at H
  have c21b0 : (a0 == 3) = true := beq_iff_eq.mpr c21
  have c21b1 : (a0 != 3) = false := bne_eq_false_iff_eq.mpr c21
  clear c21
  obtain ⟨t185, A22, H⟩ := ob H
  (try dsimp only at H)
  obtain rfl := Option.some.inj H
  go_enter Tryz.func74, Tryz.ntmps74
  go_wp2_with (first | ((with_reducible refine gc 101 ?_); refine gl (some 69) Tryz.func101 #[.string a3] ?_; (with_reducible refine (spec_rwPairs.calls k a3 t185 _ A22.out).mono ?_); rintro e w23 ⟨v186, rfl, ho0, hb⟩; refine ⟨_, rfl, ?_⟩; have HO187 := Aside0.mk (Kd.R_lower ho0 (below_size bw)); replace HB := bs hb; (try clear hb); (try clear ho0); obtain ⟨Ao24, co24, eo24⟩ := Kd.R_slice HO187.out; subst eo24))
  go_ret
  exact ⟨rs, bw⟩
 rw [if_neg c21] at H
 have c21b0 : (a0 == 3) = false := beq_eq_false_iff_ne.mpr c21
 have c21b1 : (a0 != 3) = true := bne_iff_ne.mpr c21
 obtain ⟨t188, A25, H⟩ := ob H
 (try dsimp only at H)
 have H' := Aside0.mk H
 clear H
 go_enter Tryz.func74, Tryz.ntmps74
 go_wp2_with (first | ((with_reducible refine gc 101 ?_); refine gl (some 14) Tryz.func101 #[.string a3] ?_; (with_reducible refine (spec_rwPairs.calls k a3 t188 _ A25.out).mono ?_); rintro e w26 ⟨v189, rfl, ho0, hb⟩; refine ⟨_, rfl, ?_⟩; have HO190 := Aside0.mk (Kd.R_lower ho0 (below_size bw)); replace HB := bs hb; (try clear hb); (try clear ho0)))
 go_loopg [3, 9, 11] k (fun kq v3 v9 v11 w' => ∃ (x3_1 : ByteArray) (x9_1 : Int) (x11_1 : List Int), v3 = .string x3_1 ∧ v9 = .int .i64 x9_1 ∧ Aside0 (spec_pzValue.l2 kq a1 x3_1 x9_1 x11_1 = some r) ∧ Aside0 (kq ≤ k) ∧ Aside0 (Kd.R (Kd.int .i64) 3 w' w.heap.size (fun _ => True) v11 x11_1) ∧ Aside0 (Below w.heap.size w w'))
 case atStart => exact ⟨(a3), (0), (t188), (rs), (rs), H', ⟨Nat.le_refl _⟩, ⟨pr HO190⟩, ⟨bw⟩⟩
 case round =>
  clear H'
  try clear c1
  try clear p1
  try clear q1
  try clear hx1
  try clear c2
  try clear p2
  try clear c5
  try clear c5b0
  try clear c5b1
  try clear c6
  try clear c6b0
  try clear p6
  try clear c7
  try clear c9
  try clear c9b0
  try clear c10
  try clear c10b0
  try clear p11
  try clear q11
  try clear hx11
  try clear c12
  try clear c12b0
  try clear c12b1
  try clear c13
  try clear c13b0
  try clear c13b1
  try clear c14
  try clear c14b0
  try clear c15
  try clear c15b0
  try clear p16
  try clear q16
  try clear hx16
  try clear c17
  try clear c17b0
  try clear c17b1
  try clear c18
  try clear c18b0
  try clear c18b1
  try clear c21
  try clear c21b0
  try clear c21b1
  try clear p1
  try clear p11
  try clear p16
  try clear p2
  try clear p6
  try clear q1
  try clear q11
  try clear q16
  obtain ⟨x3_1, x9_1, x11_1, rfl, rfl, HA, HK1, HO_11, HB⟩ := hrel
  cases gk with
  | zero => exact absurd HA.out (by simp [spec_pzValue.l2])
  | succ k1 =>
   have H := HA.out
   clear HA
   simp only [spec_pzValue.l2] at H
   by_cases c27 : (x11_1.length : Int) > 0
   ·rw [if_pos c27] at H
    have c27b0 := decide_eq_true c27
    have c27b1 : decide (0 < x11_1.length) = true := decide_eq_true (by omega)
    clear c27
    have HC28 := Aside0.mk H
    clear H
    obtain ⟨Ao29, co29, eo29⟩ := Kd.R_slice HO_11.out
    subst eo29
    go_upto_region 6 with (fail)
    go_cut [28] (fun v28 wc => ∃ (kq : Nat) (x28_27 : Bool), v28 = .bool x28_27 ∧ Aside0 (spec_pzValue.j3 kq a1 x3_1 x9_1 x28_27 = some r) ∧ Aside0 (kq ≤ k1) ∧ Aside0 (Below w.heap.size w wc))
    case first =>
     have H := HC28.out
     clear HC28
     obtain ⟨t191, A30, H⟩ := ob H
     (try dsimp only at H)
     by_cases c31 : t191 = true
     ·subst c31
      rw [if_pos rfl] at H
      have H' := Aside0.mk H
      clear H
      go_wp2_with (first | ((with_reducible refine gc 102 ?_); refine gl (some 22) Tryz.func102 #[.slice Ao29 x11_1.length co29, .int .i64 a1] ?_; (with_reducible refine (spec_l1Has.calls k1 _ _ x11_1 a1 true _ ?_ ?_ A30.out).mono ?_); exact rr HO_11; exact rn HO_11; rintro e w' ⟨rfl, ⟨nd, rfl⟩⟩; refine ⟨_, rfl, ?_⟩))
      go_meet
      case rel => exact ⟨_, (true), (rs), H', ⟨by have := HK1.out; first | omega | exact Nat.le_refl _⟩, ⟨bw⟩⟩
     replace c31 := Bool.eq_false_iff.mpr c31
     subst c31
     rw [if_neg (show ¬ (false = true) by decide)] at H
     obtain ⟨t192, A32, H⟩ := ob H
     (try dsimp only at H)
     have H' := Aside0.mk H
     clear H
     go_wp2_with (first | ((with_reducible refine gc 102 ?_); refine gl (some 22) Tryz.func102 #[.slice Ao29 x11_1.length co29, .int .i64 a1] ?_; (with_reducible refine (spec_l1Has.calls k1 _ _ x11_1 a1 false _ ?_ ?_ A30.out).mono ?_); exact rr HO_11; exact rn HO_11; rintro e w' ⟨rfl, ⟨nd, rfl⟩⟩; refine ⟨_, rfl, ?_⟩) | (go_at_call 102; (with_reducible refine (spec_l1Has.calls k1 _ _ x11_1 (wrap64 (a1 - 1)) t192 _ ?_ ?_ A32.out).mono ?_); exact rr HO_11; exact rn HO_11; rintro e w' ⟨rfl, ⟨nd, rfl⟩⟩))
     go_meet
     case rel => exact ⟨_, (t192), (rs), H', ⟨by have := HK1.out; first | omega | exact Nat.le_refl _⟩, ⟨bw⟩⟩
    case rest =>
     clear HC28
     try clear c1
     try clear p1
     try clear q1
     try clear hx1
     try clear c2
     try clear p2
     try clear c3
     try clear c5
     try clear c5b0
     try clear c5b1
     try clear c6
     try clear c6b0
     try clear p6
     try clear c7
     try clear c9
     try clear c9b0
     try clear c10
     try clear c10b0
     try clear p11
     try clear q11
     try clear hx11
     try clear c12
     try clear c12b0
     try clear c12b1
     try clear c13
     try clear c13b0
     try clear c13b1
     try clear c14
     try clear c14b0
     try clear c15
     try clear c15b0
     try clear p16
     try clear q16
     try clear hx16
     try clear c17
     try clear c17b0
     try clear c17b1
     try clear c18
     try clear c18b0
     try clear c18b1
     try clear c21
     try clear c21b0
     try clear c21b1
     try clear c27
     try clear c27b0
     try clear c27b1
     try clear c31
     try clear p1
     try clear p11
     try clear p16
     try clear p2
     try clear p6
     try clear q1
     try clear q11
     try clear q16
     obtain ⟨kq, x28_27, rfl, HA, HJ27, HB⟩ := hcut
     cases kq with
     | zero => exact absurd HA.out (by simp [spec_pzValue.j3])
     | succ kj27 =>
      have H := HA.out
      clear HA
      simp only [spec_pzValue.j3] at H
      by_cases c33 : x28_27 = true
      ·subst c33
       rw [if_pos rfl] at H
       obtain ⟨t193, A34, H⟩ := ob H
       (try dsimp only at H)
       obtain ⟨t194, A35, H⟩ := ob H
       (try dsimp only at H)
       have H' := Aside0.mk H
       clear H
       go_wp2_with (first | ((with_reducible refine gc 99 ?_); refine gl (some 32) Tryz.func99 #[.string x3_1] ?_; (with_reducible refine (spec_rwTick.calls kj27 x3_1 t193 _ A34.out).mono ?_); rintro e w36 ⟨rfl, hb⟩; refine ⟨_, rfl, ?_⟩; replace HB := bs hb; (try clear hb)) | ((with_reducible refine gc 101 ?_); refine gl (some 19) Tryz.func101 #[.string t193] ?_; (with_reducible refine (spec_rwPairs.calls kj27 t193 t194 _ A35.out).mono ?_); rintro e w37 ⟨v195, rfl, ho0, hb⟩; refine ⟨_, rfl, ?_⟩; have HO196 := Aside0.mk (Kd.R_lower ho0 (below_size bw)); replace HB := bs hb; (try clear hb); (try clear ho0)))
       go_roundg kj27
       case measure => have := HK1.out; have := HJ27.out; omega
       case rel => exact ⟨(t193), (wrap64 (x9_1 + 1)), (t194), (rs), (rs), H', ⟨by have := HK1.out; have := HJ27.out; omega⟩, ⟨pr HO196⟩, ⟨bw⟩⟩
      replace c33 := Bool.eq_false_iff.mpr c33
      subst c33
      rw [if_neg (show ¬ (false = true) by decide)] at H
      obtain ⟨t197, A38, H⟩ := ob H
      (try dsimp only at H)
      obtain ⟨t198, A39, H⟩ := ob H
      (try dsimp only at H)
      have H' := Aside0.mk H
      clear H
      go_wp2_with (first | ((with_reducible refine gc 99 ?_); refine gl (some 32) Tryz.func99 #[.string x3_1] ?_; (with_reducible refine (spec_rwTick.calls kj27 x3_1 t197 _ A38.out).mono ?_); rintro e w40 ⟨rfl, hb⟩; refine ⟨_, rfl, ?_⟩; replace HB := bs hb; (try clear hb)) | ((with_reducible refine gc 101 ?_); refine gl (some 19) Tryz.func101 #[.string t197] ?_; (with_reducible refine (spec_rwPairs.calls kj27 t197 t198 _ A39.out).mono ?_); rintro e w41 ⟨v199, rfl, ho0, hb⟩; refine ⟨_, rfl, ?_⟩; have HO200 := Aside0.mk (Kd.R_lower ho0 (below_size bw)); replace HB := bs hb; (try clear hb); (try clear ho0)))
      go_roundg kj27
      case measure => have := HK1.out; have := HJ27.out; omega
      case rel => exact ⟨(t197), (x9_1), (t198), (rs), (rs), H', ⟨by have := HK1.out; have := HJ27.out; omega⟩, ⟨pr HO200⟩, ⟨bw⟩⟩
   rw [if_neg c27] at H
   have c27b0 := decide_eq_false c27
   have c27b1 : decide (0 < x11_1.length) = false := decide_eq_false (by omega)
   clear c27
   obtain rfl := Option.some.inj H
   obtain ⟨Ao42, co42, eo42⟩ := Kd.R_slice HO_11.out
   subst eo42
   go_wp2
   go_ret
   exact ⟨rs, bw⟩

/-! ### spec_pzFits: function 58 -/
def spec_pzFits.f (k : Nat) (a0_0 : Int) (a0_1 : Int) (a0_2 : Int) (a0_3 : Int) (a1 : ByteArray) : Option (Bool) := (spec_pzValue.f k a0_0 a0_1 a0_2 a1).bind fun t202 => (some (t202 == a0_3))
theorem spec_pzFits.mono : ∀ a0 a1 a2 a3 a4 k, LeO (spec_pzFits.f k a0 a1 a2 a3 a4) (spec_pzFits.f (k + 1) a0 a1 a2 a3 a4) := by
  intro a0 a1 a2 a3 a4 k
  unfold spec_pzFits.f
  repeat' first
      | (with_reducible exact spec_pzValue.mono _ _ _ _ _)
      | (with_reducible exact LeO.refl _)
      | (with_reducible exact LeO.none _)
      | (with_reducible refine LeO.ite ?_ ?_)
      | (with_reducible refine LeO.bind ?_ (fun _ => ?_))
      | exact spec_pzValue.mono _ _ _ _ _
      | exact LeO.none _
      | refine LeO.ite ?_ ?_
      | refine LeO.bind ?_ (fun _ => ?_)
def spec_pzFits.T1 : Bool × List (List Nat × List Nat) := (true, [([], []), ([0], [0]), ([], []), ([2], [2]), ([], []), ([4], [4]), ([], []), ([1, 3, 5, 6], [1, 3, 5, 6]), ([], []), ([8], [8]), ([7, 9], [7, 9]), ([10, 7, 0, 1, 2, 3, 4, 5, 6, 7, 8, 9, 10], [10])])
def spec_pzFits.B1 : List Nat := [0, 1, 0, 4, 0, 16, 0, 127, 0, 256, 1023, 2047]
theorem spec_pzFits.tab1 : rtab .any (opsOf Tryz.f58 1) = spec_pzFits.T1 := by kernel_rfl
theorem spec_pzFits.bits1 : waitsOk spec_pzFits.T1.2 spec_pzFits.B1 = true := by kernel_rfl
set_option maxHeartbeats 8000000 in
set_option maxRecDepth 100000 in
theorem spec_pzFits.calls (k : Nat) (a0_0 : Int) (a0_1 : Int) (a0_2 : Int) (a0_3 : Int) (a1 : ByteArray) (r : Bool) (w : World) (h : spec_pzFits.f k a0_0 a0_1 a0_2 a0_3 a1 = some r) :
  Calls Tryz.prog 58 #[.agg #[.int .i64 a0_0, .int .i64 a0_1, .int .i64 a0_2, .int .i64 a0_3], .string a1] w fun e w' => e = .returned (.bool r) ∧ Below w.heap.size w w' := by
 have hu42 := Tryz.underlying42
 have HB := Aside0.mk (Below.refl w.heap.size w)
 unfold spec_pzFits.f at h
 have H := h
 clear h
 obtain ⟨t202, A3, H⟩ := ob H
 (try dsimp only at H)
 obtain rfl := Option.some.inj H
 go_enter Tryz.func58, Tryz.ntmps58
 try go_wp2_with (first | ((with_reducible refine gd 2 ?_); refine bx 2 42 #[.int .i64 a0_0, .int .i64 a0_1, .int .i64 a0_2, .int .i64 a0_3] ?_; intro gb201 hg w4 hbox hb; have BK201 := hbox; have GW201 := gs hg; have GE201 := gs hg; replace HB := bs hb; clear hb hbox hg))
 replace BK201 := Aside0.mk (blk_drew BK201.out)
 replace HB := Aside0.mk (below_drew1 HB.out)
 refine start_ (n := 12) (S := fun w' => w'.cell? ⟨gb201, 0, none⟩ = some (.int .i64 a0_0) ∧ w'.cell? ⟨gb201, 1, none⟩ = some (.int .i64 a0_1) ∧ w'.cell? ⟨gb201, 2, none⟩ = some (.int .i64 a0_2) ∧ w'.cell? ⟨gb201, 3, none⟩ = some (.int .i64 a0_3)) (ds := []) (tb 12 0) (by kernel_rfl) rfl rfl ⟨ec BK201, ec BK201, ec BK201, ec BK201⟩ (fun hHeld => ?_); refine with_tabW spec_pzFits.tab1 spec_pzFits.bits1 (fun HT_ HW_ => ?_)
 generalize w4.drew = w5 at BK201 HB hHeld ⊢
 refine pu 0 (some 5) (tb 12 1) ?_
 refine pu 2 (some 7) (tb 12 5) ?_
 refine pu 4 (some 9) (tb 12 21) ?_
 refine pu 6 (some 11) (tb 12 85) ?_
 refine pu 8 (some 13) (tb 12 341) ?_
 refine tk 1 (some 6) (tb 12 343) hHeld ?_
 refine tk 3 (some 8) (tb 12 351) hHeld ?_
 refine tk 5 (some 10) (tb 12 383) hHeld ?_
 refine tk 9 (some 14) (tb 12 895) hHeld ?_
 refine one_ (i := 7) (N := some 12) (tb 12 1023) rfl rfl (one_of HT_.out (by kernel_rfl)) (by decide) (fun K hK => ?_)
 refine go1 Tryz.func74 #[.int .i64 a0_0, .int .i64 a0_1, .int .i64 a0_2, .string a1] ?_
 with_reducible refine (spec_pzValue.calls k a0_0 a0_1 a0_2 a1 t202 _ A3.out).mono ?_
 rintro e w6 ⟨rfl, hb⟩
 refine ⟨_, rfl, ?_⟩
 replace BK201 := nk BK201 hb
 replace HB := bs hb
 (try clear hb)
 refine hK.out _ _ ⟨ec BK201, ec BK201, ec BK201, ec BK201⟩ (fun hHeld => ?_)
 clear hK K
 refine nm (some 12) ?_
 refine pu 10 (some 15) (tb 12 2047) ?_
 refine pu 11 (some 4) (tb 12 4095) ?_
 refine done_ (done_of HT_.out (by kernel_rfl)) ?_
 try go_wp2
 go_ret
 exact ⟨rs, bw⟩

end Go.Proofs.YtfaakdokcldnkaaGreatDoor.PFnRowsGuessedOfAll
