-- Laid by xprint, a program of this session that runs over the kit's print.
import Derived.Test.YthjbmojacgkdcaaGreatDoorPFnRowsHiddenx4
namespace Go.Proofs.YthjbmojacgkdcaaGreatDoor.PFnRowsHidden
open Go.RowKit Go.Proofs.YthjbmojacgkdcaaGreatDoorW.PrintWords Go.Proofs.YthjbmojacgkdcaaGreatDoorW.PrintLast Go.Proofs.YthjbmojacgkdcaaGreatDoorW.PrintMore Go.Proofs.YthjbmojacgkdcaaGreatDoor.Sq
attribute [local go_sem] max2_int min2_int max_two min_two max_three min_three max_four min_four   -- for this text's walks alone
set_option linter.unusedVariables false
set_option linter.unusedSimpArgs false

/-! ### spec_l1In: function 44 -/
def spec_l1In.f (a0 : Int) (a1 : Int) (a2 : Int) : Option (Bool) := if a0 ≥ a1 then (some (decide (a0 ≤ a2))) else (some false)
set_option maxHeartbeats 8000000 in
set_option maxRecDepth 100000 in
theorem spec_l1In.calls (a0 : Int) (a1 : Int) (a2 : Int) (r : Bool) (w : World) (h : spec_l1In.f a0 a1 a2 = some r) :
  Calls Tryz.prog 44 #[.int .i64 a0, .int .i64 a1, .int .i64 a2] w fun e w' => e = .returned (.bool r) ∧ Drawn0 w w' := by
 unfold spec_l1In.f at h
 have H := h
 clear h
 by_cases c4 : a0 ≥ a1
 ·rw [if_pos c4] at H
  have c4b0 := decide_eq_true c4
  clear c4
  obtain rfl := Option.some.inj H
  go_enter Tryz.func44, Tryz.ntmps44
  go_wp2
  go_ret
  exact ⟨rs, by repeat (first | exact Drawn0.refl _ | apply Drawn0.step)⟩
 rw [if_neg c4] at H
 have c4b0 := decide_eq_false c4
 clear c4
 obtain rfl := Option.some.inj H
 go_enter Tryz.func44, Tryz.ntmps44
 go_wp2
 go_ret
 exact ⟨rs, by repeat (first | exact Drawn0.refl _ | apply Drawn0.step)⟩

/-! ### spec_rwGood: function 71 -/
def spec_rwGood.l0 : Nat → ByteArray → Int → Option (Bool)
  | 0, _, _ => none
  | k + 1, x0, x3 => if x3 < (x0.size : Int) then (if 0 ≤ x3 then (if (bt x0 x3) = 60 then (spec_rwGood.l0 k x0 (wrap64 (x3 + 1))) else (if (bt x0 x3) = 62 then (spec_rwGood.l0 k x0 (wrap64 (x3 + 1))) else (some false))) else (none)) else (some true)
def spec_rwGood.f (k : Nat) (a0 : ByteArray) : Option (Bool) := (spec_l1In.f (a0.size : Int) 1 60).bind fun t186 => (if t186 = true then (spec_rwGood.l0 k a0 0) else (some false))
theorem spec_rwGood.mono_l : ∀ k, (∀ y0 y1, LeO (spec_rwGood.l0 k y0 y1) (spec_rwGood.l0 (k + 1) y0 y1))
  | 0 => fun _ _ r h => by simp [spec_rwGood.l0] at h
  | k + 1 => by
    have ih0 := spec_rwGood.mono_l k
    · intro y0 y1
      unfold spec_rwGood.l0
      repeat' first
      | (with_reducible exact ih0 _ _)
      | (with_reducible exact LeO.refl _)
      | (with_reducible exact LeO.none _)
      | (with_reducible refine LeO.ite ?_ ?_)
      | (with_reducible refine LeO.bind ?_ (fun _ => ?_))
      | exact ih0 _ _
      | exact LeO.none _
      | refine LeO.ite ?_ ?_
      | refine LeO.bind ?_ (fun _ => ?_)
theorem spec_rwGood.mono : ∀ a0 k, LeO (spec_rwGood.f k a0) (spec_rwGood.f (k + 1) a0) := by
  intro a0 k
  have ih0 := spec_rwGood.mono_l k
  unfold spec_rwGood.f
  repeat' first
      | (with_reducible exact ih0 _ _)
      | (with_reducible exact LeO.refl _)
      | (with_reducible exact LeO.none _)
      | (with_reducible refine LeO.ite ?_ ?_)
      | (with_reducible refine LeO.bind ?_ (fun _ => ?_))
      | exact ih0 _ _
      | exact LeO.none _
      | refine LeO.ite ?_ ?_
      | refine LeO.bind ?_ (fun _ => ?_)
set_option maxHeartbeats 8000000 in
set_option maxRecDepth 100000 in
theorem spec_rwGood.calls (k : Nat) (a0 : ByteArray) (r : Bool) (w : World) (h : spec_rwGood.f k a0 = some r) :
  Calls Tryz.prog 71 #[.string a0] w fun e w' => e = .returned (.bool r) ∧ Drawn0 w w' := by
 unfold spec_rwGood.f at h
 have H := h
 clear h
 obtain ⟨t186, A2, H⟩ := ob H
 (try dsimp only at H)
 by_cases c3 : t186 = true
 ·subst c3
  rw [if_pos rfl] at H
  have H' := Aside0.mk H
  clear H
  go_enter Tryz.func71, Tryz.ntmps71
  go_wp2_with (first | ((with_reducible refine gc 44 ?_); refine gl (some 6) Tryz.func44 #[.int .i64 (a0.size : Int), .int .i64 1, .int .i64 60] ?_; (with_reducible refine (spec_l1In.calls (a0.size : Int) 1 60 true _ A2.out).mono ?_); rintro e w' ⟨rfl, ⟨nd, rfl⟩⟩; refine ⟨_, rfl, ?_⟩))
  go_loopg [3] k (fun kq v3 w' => ∃ (x3_1 : Int), v3 = .int .i64 x3_1 ∧ Aside0 (spec_rwGood.l0 kq a0 x3_1 = some r) ∧ Aside0 (kq ≤ k) ∧ Drawn0 w w')
  case atStart => exact ⟨(0), (rs), H', ⟨Nat.le_refl _⟩, by repeat (first | exact Drawn0.refl _ | apply Drawn0.step)⟩
  case round =>
   clear H'
   try clear p2
   try clear c3
   obtain ⟨x3_1, rfl, HA, HK1, ⟨m1, rfl⟩⟩ := hrel
   cases gk with
   | zero => exact absurd HA.out (by simp [spec_rwGood.l0])
   | succ k1 =>
    have H := HA.out
    clear HA
    simp only [spec_rwGood.l0] at H
    by_cases c4 : x3_1 < (a0.size : Int)
    ·rw [if_pos c4] at H
     have c4b0 := decide_eq_true c4
     clear c4
     obtain ⟨c5, H⟩ := oi H
     have c5b0 := decide_eq_true c5
     clear c5
     by_cases c7 : (bt a0 x3_1) = 60
     ·rw [if_pos c7] at H
      have c7b0 : ((bt a0 x3_1) == 60) = true := beq_iff_eq.mpr c7
      have c7b1 : ((bt a0 x3_1) != 60) = false := bne_eq_false_iff_eq.mpr c7
      clear c7
      have H' := Aside0.mk H
      clear H
      have p6 : 0 ≤ (x3_1 : Int) := of_decide_eq_true asm
      have q6 : x3_1 < (a0.size : Int) := of_decide_eq_true asm
      have hx6 := bt_at a0 x3_1
      replace p6 := eq_true p6
      replace q6 := eq_true q6
      go_wp2
      go_roundg k1
      case measure => have := HK1.out; omega
      case rel => exact ⟨(wrap64 (x3_1 + 1)), (rs), H', ⟨by have := HK1.out; omega⟩, by repeat (first | exact Drawn0.refl _ | apply Drawn0.step)⟩
     rw [if_neg c7] at H
     have c7b0 : ((bt a0 x3_1) == 60) = false := beq_eq_false_iff_ne.mpr c7
     have c7b1 : ((bt a0 x3_1) != 60) = true := bne_iff_ne.mpr c7
     by_cases c9 : (bt a0 x3_1) = 62
     ·rw [if_pos c9] at H
      have c9b0 : ((bt a0 x3_1) == 62) = true := beq_iff_eq.mpr c9
      have c9b1 : ((bt a0 x3_1) != 62) = false := bne_eq_false_iff_eq.mpr c9
      clear c9
      have H' := Aside0.mk H
      clear H
      have p6 : 0 ≤ (x3_1 : Int) := of_decide_eq_true asm
      have q6 : x3_1 < (a0.size : Int) := of_decide_eq_true asm
      have hx6 := bt_at a0 x3_1
      replace p6 := eq_true p6
      replace q6 := eq_true q6
      have p8 : 0 ≤ (x3_1 : Int) := of_decide_eq_true asm
      have q8 : x3_1 < (a0.size : Int) := of_decide_eq_true asm
      have hx8 := bt_at a0 x3_1
      replace p8 := eq_true p8
      replace q8 := eq_true q8
      go_wp2
      go_roundg k1
      case measure => have := HK1.out; omega
      case rel => exact ⟨(wrap64 (x3_1 + 1)), (rs), H', ⟨by have := HK1.out; omega⟩, by repeat (first | exact Drawn0.refl _ | apply Drawn0.step)⟩
     rw [if_neg c9] at H
     have c9b0 : ((bt a0 x3_1) == 62) = false := beq_eq_false_iff_ne.mpr c9
     have c9b1 : ((bt a0 x3_1) != 62) = true := bne_iff_ne.mpr c9
     obtain rfl := Option.some.inj H
     have p6 : 0 ≤ (x3_1 : Int) := of_decide_eq_true asm
     have q6 : x3_1 < (a0.size : Int) := of_decide_eq_true asm
     have hx6 := bt_at a0 x3_1
     replace p6 := eq_true p6
     replace q6 := eq_true q6
     have p8 : 0 ≤ (x3_1 : Int) := of_decide_eq_true asm
     have q8 : x3_1 < (a0.size : Int) := of_decide_eq_true asm
     have hx8 := bt_at a0 x3_1
     replace p8 := eq_true p8
     replace q8 := eq_true q8
     go_wp2
     go_ret
     exact ⟨rs, by repeat (first | exact Drawn0.refl _ | apply Drawn0.step)⟩
    rw [if_neg c4] at H
    have c4b0 := decide_eq_false c4
    clear c4
    obtain rfl := Option.some.inj H
    go_wp2
    go_ret
    exact ⟨rs, by repeat (first | exact Drawn0.refl _ | apply Drawn0.step)⟩
 replace c3 := Bool.eq_false_iff.mpr c3
 subst c3
 rw [if_neg (show ¬ (false = true) by decide)] at H
 obtain rfl := Option.some.inj H
 go_enter Tryz.func71, Tryz.ntmps71
 go_wp2_with (first | ((with_reducible refine gc 44 ?_); refine gl (some 6) Tryz.func44 #[.int .i64 (a0.size : Int), .int .i64 1, .int .i64 60] ?_; (with_reducible refine (spec_l1In.calls (a0.size : Int) 1 60 false _ A2.out).mono ?_); rintro e w' ⟨rfl, ⟨nd, rfl⟩⟩; refine ⟨_, rfl, ?_⟩))
 go_ret
 exact ⟨rs, by repeat (first | exact Drawn0.refl _ | apply Drawn0.step)⟩

/-! ### spec_pzHidden: function 43 -/
def spec_pzHidden.f (k : Nat) (a0 : ByteArray) : Option (Bool) := (spec_rwGood.f k a0).bind fun t187 => (if t187 = true then (some (decide ((a0.size : Int) ≤ 8))) else (some false))
theorem spec_pzHidden.mono : ∀ a0 k, LeO (spec_pzHidden.f k a0) (spec_pzHidden.f (k + 1) a0) := by
  intro a0 k
  unfold spec_pzHidden.f
  repeat' first
      | (with_reducible exact spec_rwGood.mono _ _)
      | (with_reducible exact LeO.refl _)
      | (with_reducible exact LeO.none _)
      | (with_reducible refine LeO.ite ?_ ?_)
      | (with_reducible refine LeO.bind ?_ (fun _ => ?_))
      | exact spec_rwGood.mono _ _
      | exact LeO.none _
      | refine LeO.ite ?_ ?_
      | refine LeO.bind ?_ (fun _ => ?_)
set_option maxHeartbeats 8000000 in
set_option maxRecDepth 100000 in
theorem spec_pzHidden.calls (k : Nat) (a0 : ByteArray) (r : Bool) (w : World) (h : spec_pzHidden.f k a0 = some r) :
  Calls Tryz.prog 43 #[.string a0] w fun e w' => e = .returned (.bool r) ∧ Drawn0 w w' := by
 unfold spec_pzHidden.f at h
 have H := h
 clear h
 obtain ⟨t187, A2, H⟩ := ob H
 (try dsimp only at H)
 by_cases c3 : t187 = true
 ·subst c3
  rw [if_pos rfl] at H
  obtain rfl := Option.some.inj H
  go_enter Tryz.func43, Tryz.ntmps43
  go_wp2_with (first | ((with_reducible refine gc 71 ?_); refine gl (some 4) Tryz.func71 #[.string a0] ?_; (with_reducible refine (spec_rwGood.calls k a0 true _ A2.out).mono ?_); rintro e w' ⟨rfl, ⟨nd, rfl⟩⟩; refine ⟨_, rfl, ?_⟩))
  go_ret
  exact ⟨rs, by repeat (first | exact Drawn0.refl _ | apply Drawn0.step)⟩
 replace c3 := Bool.eq_false_iff.mpr c3
 subst c3
 rw [if_neg (show ¬ (false = true) by decide)] at H
 obtain rfl := Option.some.inj H
 go_enter Tryz.func43, Tryz.ntmps43
 go_wp2_with (first | ((with_reducible refine gc 71 ?_); refine gl (some 4) Tryz.func71 #[.string a0] ?_; (with_reducible refine (spec_rwGood.calls k a0 false _ A2.out).mono ?_); rintro e w' ⟨rfl, ⟨nd, rfl⟩⟩; refine ⟨_, rfl, ?_⟩))
 go_ret
 exact ⟨rs, by repeat (first | exact Drawn0.refl _ | apply Drawn0.step)⟩

/-! ### spec_pzNext: function 45 -/
def spec_pzNext.f (a0 : Int) : Option (Int) := some (Int.tmod (wrap64 ((wrap64 (223 * a0)) + 2161)) 10007)
set_option maxHeartbeats 8000000 in
set_option maxRecDepth 100000 in
theorem spec_pzNext.calls (a0 : Int) (r : Int) (w : World) (h : spec_pzNext.f a0 = some r) :
  Calls Tryz.prog 45 #[.int .i64 a0] w fun e w' => e = .returned (.int .i64 r) ∧ Drawn0 w w' := by
 unfold spec_pzNext.f at h
 have H := h
 clear h
 obtain rfl := Option.some.inj H
 go_enter Tryz.func45, Tryz.ntmps45
 go_wp2
 go_ret
 exact ⟨rs, by repeat (first | exact Drawn0.refl _ | apply Drawn0.step)⟩

/-! ### spec_rwPairs: function 95 -/
def spec_rwPairs.l0 : Nat → ByteArray → List Int → Int → Option (List Int)
  | 0, _, _, _ => none
  | k + 1, x0, x3, x4 => if (wrap64 (x4 + 1)) < (x0.size : Int) then (if 0 ≤ x4 then (if x4 < (x0.size : Int) then (if (bt x0 x4) = 62 then (if 0 ≤ (wrap64 (x4 + 1)) then (if (bt x0 (wrap64 (x4 + 1))) = 60 then (if x3.length < 17592186044416 then (spec_rwPairs.l0 k x0 (x3 ++ [x4]) (wrap64 (x4 + 1))) else (none)) else (spec_rwPairs.l0 k x0 x3 (wrap64 (x4 + 1)))) else (none)) else (spec_rwPairs.l0 k x0 x3 (wrap64 (x4 + 1)))) else (none)) else (none)) else (some x3)
def spec_rwPairs.f (k : Nat) (a0 : ByteArray) : Option (List Int) := spec_rwPairs.l0 k a0 ([] : List Int) 0
theorem spec_rwPairs.mono_l : ∀ k, (∀ y0 y1 y2, LeO (spec_rwPairs.l0 k y0 y1 y2) (spec_rwPairs.l0 (k + 1) y0 y1 y2))
  | 0 => fun _ _ _ r h => by simp [spec_rwPairs.l0] at h
  | k + 1 => by
    have ih0 := spec_rwPairs.mono_l k
    · intro y0 y1 y2
      unfold spec_rwPairs.l0
      repeat' first
      | (with_reducible exact ih0 _ _ _)
      | (with_reducible exact LeO.refl _)
      | (with_reducible exact LeO.none _)
      | (with_reducible refine LeO.ite ?_ ?_)
      | (with_reducible refine LeO.bind ?_ (fun _ => ?_))
      | exact ih0 _ _ _
      | exact LeO.none _
      | refine LeO.ite ?_ ?_
      | refine LeO.bind ?_ (fun _ => ?_)
theorem spec_rwPairs.mono : ∀ a0 k, LeO (spec_rwPairs.f k a0) (spec_rwPairs.f (k + 1) a0) := by
  intro a0 k
  have ih0 := spec_rwPairs.mono_l k
  unfold spec_rwPairs.f
  repeat' first
      | (with_reducible exact ih0 _ _ _)
      | (with_reducible exact LeO.refl _)
      | (with_reducible exact LeO.none _)
      | (with_reducible refine LeO.ite ?_ ?_)
      | (with_reducible refine LeO.bind ?_ (fun _ => ?_))
      | exact ih0 _ _ _
      | exact LeO.none _
      | refine LeO.ite ?_ ?_
      | refine LeO.bind ?_ (fun _ => ?_)
set_option maxHeartbeats 8000000 in
set_option maxRecDepth 100000 in
theorem spec_rwPairs.calls (k : Nat) (a0 : ByteArray) (r : List Int) (w : World) (h : spec_rwPairs.f k a0 = some r) :
  Calls Tryz.prog 95 #[.string a0] w fun e w' => ∃ v0_ : Value, e = .returned (v0_) ∧ Kd.R (Kd.int .i64) 3 w' w.heap.size (fun _ => True) v0_ r ∧ Below w.heap.size w w' := by
 have HB := Aside0.mk (Below.refl w.heap.size w)
 unfold spec_rwPairs.f at h
 have H := h
 clear h
 have H' := Aside0.mk H
 clear H
 go_enter Tryz.func95, Tryz.ntmps95
 go_wp2
 go_loopg [3, 4] k (fun kq v3 v4 w' => ∃ (x3_1 : List Int) (x4_1 : Int), v4 = .int .i64 x4_1 ∧ Aside0 (spec_rwPairs.l0 kq a0 x3_1 x4_1 = some r) ∧ Aside0 (kq ≤ k) ∧ Aside0 (Kd.R (Kd.int .i64) 3 w' w.heap.size (fun _ => True) v3 x3_1) ∧ Aside0 (Below w.heap.size w w'))
 case atStart => exact ⟨(([] : List Int)), (0), (rs), H', ⟨Nat.le_refl _⟩, ⟨by first | exact Kd.R_nil _ _ _ _ _ | exact Kd.N_nil _ _ _ _ _ | exact Kd.V_nil _ _ _ _ _ | exact Kd.Q_nil _ _ _ _ _ | exact Kd.S_nil _ _ _ _ _⟩, ⟨bw⟩⟩
 case round =>
  clear H'
  obtain ⟨x3_1, x4_1, rfl, HA, HK1, HO_3, HB⟩ := hrel
  cases gk with
  | zero => exact absurd HA.out (by simp [spec_rwPairs.l0])
  | succ k1 =>
   have H := HA.out
   clear HA
   simp only [spec_rwPairs.l0] at H
   by_cases c2 : (wrap64 (x4_1 + 1)) < (a0.size : Int)
   ·rw [if_pos c2] at H
    have c2b0 := decide_eq_true c2
    clear c2
    obtain ⟨c3, H⟩ := oi H
    have c3b0 := decide_eq_true c3
    clear c3
    obtain ⟨c4, H⟩ := oi H
    have c4b0 := decide_eq_true c4
    clear c4
    by_cases c6 : (bt a0 x4_1) = 62
    ·rw [if_pos c6] at H
     have c6b0 : ((bt a0 x4_1) == 62) = true := beq_iff_eq.mpr c6
     have c6b1 : ((bt a0 x4_1) != 62) = false := bne_eq_false_iff_eq.mpr c6
     clear c6
     obtain ⟨ji7, hji7⟩ : ∃ j_ : Int, (wrap64 (x4_1 + 1)) = j_ := ⟨_, rfl⟩
     replace H : (if 0 ≤ (ji7) then (if (bt a0 (ji7)) = 60 then (if x3_1.length < 17592186044416 then (spec_rwPairs.l0 k1 a0 (x3_1 ++ [x4_1]) ji7) else (none)) else (spec_rwPairs.l0 k1 a0 x3_1 ji7)) else (none)) = some r := by first | (rw [hji7] at H; exact H) | (simp only [hji7] at H ⊢; exact H)
     (try rw [hji7] at c2b0)
     have hji7w : (IntKind.i64.wrap (x4_1 + 1)) = ji7 := (i64_w _).trans hji7
     obtain ⟨c8, H⟩ := oi H
     have c8b0 := decide_eq_true c8
     clear c8
     by_cases c10 : (bt a0 (ji7)) = 60
     ·rw [if_pos c10] at H
      have c10b0 : ((bt a0 (ji7)) == 60) = true := beq_iff_eq.mpr c10
      have c10b1 : ((bt a0 (ji7)) != 60) = false := bne_eq_false_iff_eq.mpr c10
      clear c10
      obtain ⟨c11, H⟩ := oi H
      have LMc11 := Aside0.mk c11
      clear c11
      obtain ⟨y188, hy188⟩ : ∃ y_ : List Int, y_ = (x3_1 ++ [x4_1]) := ⟨_, rfl⟩
      replace H : (spec_rwPairs.l0 k1 a0 y188 ji7) = some r := by first | (rw [hy188]; with_reducible exact H) | (have H2_ := (Option.bind_some _ _).symm.trans H; rw [hy188]; with_reducible exact H2_) | (have H2_ := (Option.bind_some _ _).symm.trans H; with_reducible exact H2_) | with_reducible exact H | (rw [hy188]; exact H) | exact H
      have Ny188 := Aside0.mk hy188
      clear hy188
      have H' := Aside0.mk H
      clear H
      have p5 : 0 ≤ (x4_1 : Int) := of_decide_eq_true asm
      have q5 : x4_1 < (a0.size : Int) := of_decide_eq_true asm
      have hx5 := bt_at a0 x4_1
      replace p5 := eq_true p5
      replace q5 := eq_true q5
      have p9 : 0 ≤ ((ji7) : Int) := of_decide_eq_true asm
      have q9 : (ji7) < (a0.size : Int) := of_decide_eq_true asm
      have hx9 := bt_at a0 (ji7)
      replace p9 := eq_true p9
      replace q9 := eq_true q9
      go_wp2_with (first | ((with_reducible refine gate_builtin (b := .append) (xs := #[.tmp 23, .tmp 25]) rfl ?_); at_builtin; refine Kd.R_append (Kd.int .i64) (w0 := w) w.heap.size rfl (.tmp 23) (.tmp 25) 38 3 (.int .i64 0) 8 rfl Tryz.underlying38 info3 rfl (by decide) (by omega) u3 x3_1 x4_1 [.int .i64 x4_1] (fun _ => True) (fun _ => False) rfl rfl ?aP (fun _ hk => hk.elim) ?aF ?aO ?aB ?aS ?aL ?_; (case aP => exact rfl); (case aB => exact bw); (case aF => exact (fun _ _ => trivial)); (case aO => exact (pr HO_3)); (case aS => exact (below_size bw)); (case aL => have := LMc11.out; omega); intro v189 w12 ho hb hg hat; rw [← Ny188.out] at ho; have n0_ := Aside0.mk (hb); have n1_ := Aside0.mk (ho); clear HB; clear HO_3; have HB := n0_; have HO190 := n1_; clear n0_ n1_; clear ho hb hg hat))
      go_roundg k1
      case measure => have := HK1.out; omega
      case rel => exact ⟨(y188), (ji7), (by first | rfl | (simp; done) | (simp only [← hji7] <;> (first | rfl | simp)) | (simp [*]; done)), H', ⟨by have := HK1.out; omega⟩, ⟨pr HO190⟩, ⟨bw⟩⟩
     rw [if_neg c10] at H
     have c10b0 : ((bt a0 (ji7)) == 60) = false := beq_eq_false_iff_ne.mpr c10
     have c10b1 : ((bt a0 (ji7)) != 60) = true := bne_iff_ne.mpr c10
     have H' := Aside0.mk H
     clear H
     have p5 : 0 ≤ (x4_1 : Int) := of_decide_eq_true asm
     have q5 : x4_1 < (a0.size : Int) := of_decide_eq_true asm
     have hx5 := bt_at a0 x4_1
     replace p5 := eq_true p5
     replace q5 := eq_true q5
     have p9 : 0 ≤ ((ji7) : Int) := of_decide_eq_true asm
     have q9 : (ji7) < (a0.size : Int) := of_decide_eq_true asm
     have hx9 := bt_at a0 (ji7)
     replace p9 := eq_true p9
     replace q9 := eq_true q9
     go_wp2
     go_roundg k1
     case measure => have := HK1.out; omega
     case rel => exact ⟨(x3_1), (ji7), (by first | rfl | (simp; done) | (simp only [← hji7] <;> (first | rfl | simp)) | (simp [*]; done)), H', ⟨by have := HK1.out; omega⟩, ⟨pr HO_3⟩, ⟨bw⟩⟩
    rw [if_neg c6] at H
    have c6b0 : ((bt a0 x4_1) == 62) = false := beq_eq_false_iff_ne.mpr c6
    have c6b1 : ((bt a0 x4_1) != 62) = true := bne_iff_ne.mpr c6
    have H' := Aside0.mk H
    clear H
    have p5 : 0 ≤ (x4_1 : Int) := of_decide_eq_true asm
    have q5 : x4_1 < (a0.size : Int) := of_decide_eq_true asm
    have hx5 := bt_at a0 x4_1
    replace p5 := eq_true p5
    replace q5 := eq_true q5
    go_wp2
    go_roundg k1
    case measure => have := HK1.out; omega
    case rel => exact ⟨(x3_1), (wrap64 (x4_1 + 1)), (rs), H', ⟨by have := HK1.out; omega⟩, ⟨pr HO_3⟩, ⟨bw⟩⟩
   rw [if_neg c2] at H
   have c2b0 := decide_eq_false c2
   clear c2
   obtain rfl := Option.some.inj H
   go_wp2
   go_ret
   exact ⟨_, rs, pr HO_3, bw⟩

/-! ### spec_rwTick: function 93 -/
def spec_rwTick.l0 : Nat → ByteArray → List Int → Int → Int → Option (ByteArray)
  | 0, _, _, _, _ => none
  | k + 1, x0, x6, x7, x8 => if x8 < x7 then (if 0 ≤ x8 then (if x8 < (x6.length : Int) then (if 0 ≤ (rd x6 x8) then (if (rd x6 x8) ≤ (x0.size : Int) then (if (x0.extract 0 ((rd x6 x8) : Int).toNat).size + 2 ≤ 9223372036854775807 then (if 0 ≤ (wrap64 ((rd x6 x8) + 2)) then (if (wrap64 ((rd x6 x8) + 2)) ≤ (x0.size : Int) then (if ((x0.extract 0 ((rd x6 x8) : Int).toNat) ++ (⟨#[60, 62]⟩ : ByteArray)).size + (x0.extract ((wrap64 ((rd x6 x8) + 2)) : Int).toNat x0.size).size ≤ 9223372036854775807 then (spec_rwTick.l0 k (((x0.extract 0 ((rd x6 x8) : Int).toNat) ++ (⟨#[60, 62]⟩ : ByteArray)) ++ (x0.extract ((wrap64 ((rd x6 x8) + 2)) : Int).toNat x0.size)) x6 x7 (wrap64 (x8 + 1))) else (none)) else (none)) else (none)) else (none)) else (none)) else (none)) else (none)) else (none)) else (some x0)
def spec_rwTick.f (k : Nat) (a0 : ByteArray) : Option (ByteArray) := (spec_rwPairs.f k a0).bind fun t191 => (spec_rwTick.l0 k a0 t191 (t191.length : Int) 0)
theorem spec_rwTick.mono_l : ∀ k, (∀ y0 y1 y2 y3, LeO (spec_rwTick.l0 k y0 y1 y2 y3) (spec_rwTick.l0 (k + 1) y0 y1 y2 y3))
  | 0 => fun _ _ _ _ r h => by simp [spec_rwTick.l0] at h
  | k + 1 => by
    have ih0 := spec_rwTick.mono_l k
    · intro y0 y1 y2 y3
      unfold spec_rwTick.l0
      repeat' first
      | (with_reducible exact ih0 _ _ _ _)
      | (with_reducible exact spec_rwPairs.mono _ _)
      | (with_reducible exact LeO.refl _)
      | (with_reducible exact LeO.none _)
      | (with_reducible refine LeO.ite ?_ ?_)
      | (with_reducible refine LeO.bind ?_ (fun _ => ?_))
      | exact ih0 _ _ _ _
      | exact spec_rwPairs.mono _ _
      | exact LeO.none _
      | refine LeO.ite ?_ ?_
      | refine LeO.bind ?_ (fun _ => ?_)
theorem spec_rwTick.mono : ∀ a0 k, LeO (spec_rwTick.f k a0) (spec_rwTick.f (k + 1) a0) := by
  intro a0 k
  have ih0 := spec_rwTick.mono_l k
  unfold spec_rwTick.f
  repeat' first
      | (with_reducible exact ih0 _ _ _ _)
      | (with_reducible exact spec_rwPairs.mono _ _)
      | (with_reducible exact LeO.refl _)
      | (with_reducible exact LeO.none _)
      | (with_reducible refine LeO.ite ?_ ?_)
      | (with_reducible refine LeO.bind ?_ (fun _ => ?_))
      | exact ih0 _ _ _ _
      | exact spec_rwPairs.mono _ _
      | exact LeO.none _
      | refine LeO.ite ?_ ?_
      | refine LeO.bind ?_ (fun _ => ?_)
set_option maxHeartbeats 8000000 in
set_option maxRecDepth 100000 in
theorem spec_rwTick.calls (k : Nat) (a0 : ByteArray) (r : ByteArray) (w : World) (h : spec_rwTick.f k a0 = some r) :
  Calls Tryz.prog 93 #[.string a0] w fun e w' => e = .returned (.string r) ∧ Below w.heap.size w w' := by
 have HB := Aside0.mk (Below.refl w.heap.size w)
 unfold spec_rwTick.f at h
 have H := h
 clear h
 obtain ⟨t191, A2, H⟩ := ob H
 (try dsimp only at H)
 have H' := Aside0.mk H
 clear H
 go_enter Tryz.func93, Tryz.ntmps93
 iterate 4 ((try go_wp2_with (first | (go_at_call 95; (with_reducible refine (spec_rwPairs.calls k a0 t191 _ A2.out).mono ?_); rintro e w3 ⟨v192, rfl, ho0, hb⟩; have HO193 := Aside0.mk (Kd.R_lower ho0 (below_size bw)); replace HB := bs hb; (try clear hb); (try clear ho0); obtain ⟨Ao4, co4, eo4⟩ := Kd.R_slice HO193.out; subst eo4))); (try go_quiet (fail)))
 go_loopg [0, 8] k (fun kq v0 v8 w' => ∃ (x0_1 : ByteArray) (x8_1 : Int), v0 = .string x0_1 ∧ v8 = .int .i64 x8_1 ∧ Aside0 (spec_rwTick.l0 kq x0_1 t191 (t191.length : Int) x8_1 = some r) ∧ Aside0 (kq ≤ k) ∧ Aside0 (Kd.R (Kd.int .i64) 3 w' w.heap.size (fun _ => True) (.slice Ao4 t191.length co4) t191) ∧ Aside0 (Below w.heap.size w w'))
 case atStart => exact ⟨(a0), (0), (rs), (rs), H', ⟨Nat.le_refl _⟩, ⟨pr HO193⟩, ⟨bw⟩⟩
 case round =>
  clear H'
  try clear p2
  obtain ⟨x0_1, x8_1, rfl, rfl, HA, HK1, HO_6, HB⟩ := hrel
  cases gk with
  | zero => exact absurd HA.out (by simp [spec_rwTick.l0])
  | succ k1 =>
   have H := HA.out
   clear HA
   simp only [spec_rwTick.l0] at H
   by_cases c5 : x8_1 < (t191.length : Int)
   ·rw [if_pos c5] at H
    have c5b0 := decide_eq_true c5
    clear c5
    obtain ⟨c6, H⟩ := oi H
    have c6b0 := decide_eq_true c6
    clear c6
    obtain ⟨c7, H⟩ := oi H
    have c7b0 := decide_eq_true c7
    clear c7
    obtain ⟨c8, H⟩ := oi H
    have c8b0 := eq_true c8
    have c8b1 := decide_eq_true c8
    clear c8
    obtain ⟨c9, H⟩ := oi H
    have c9b0 := eq_true c9
    have c9b1 := decide_eq_true c9
    clear c9
    obtain ⟨c10, H⟩ := oi H
    have c10b0 := eq_true c10
    have c10b1 := decide_eq_true c10
    try have c10b2 : (9223372036854775807 < (x0_1.extract 0 ((rd t191 x8_1) : Int).toNat).size + 2) = False := eq_false (Nat.not_lt.2 c10)
    try have c10b3 : (9223372036854775807 < ((rd t191 x8_1) : Int).toNat + 2) = False := eq_false (by have h9_ := c10; clear H; simp only [ByteArray.size_append, ByteArray.size_extract] at h9_; simp only [eq_iff_iff, iff_true, iff_false] at *; have z9_ : (⟨#[]⟩ : ByteArray).size = 0 := rfl; omega)
    obtain ⟨ji11, hji11⟩ : ∃ j_ : Int, (wrap64 ((rd t191 x8_1) + 2)) = j_ := ⟨_, rfl⟩
    replace H : (if 0 ≤ (ji11) then (if (ji11) ≤ (x0_1.size : Int) then (if ((x0_1.extract 0 ((rd t191 x8_1) : Int).toNat) ++ (⟨#[60, 62]⟩ : ByteArray)).size + (x0_1.extract ((ji11) : Int).toNat x0_1.size).size ≤ 9223372036854775807 then (spec_rwTick.l0 k1 (((x0_1.extract 0 ((rd t191 x8_1) : Int).toNat) ++ (⟨#[60, 62]⟩ : ByteArray)) ++ (x0_1.extract ((ji11) : Int).toNat x0_1.size)) t191 (t191.length : Int) (wrap64 (x8_1 + 1))) else (none)) else (none)) else (none)) = some r := by first | (rw [hji11] at H; exact H) | (simp only [hji11] at H ⊢; exact H)
    have hji11w : (IntKind.i64.wrap ((rd t191 x8_1) + 2)) = ji11 := (i64_w _).trans hji11
    obtain ⟨c12, H⟩ := oi H
    have c12b0 := eq_true c12
    have c12b1 := decide_eq_true c12
    clear c12
    obtain ⟨c13, H⟩ := oi H
    have c13b0 := eq_true c13
    have c13b1 := decide_eq_true c13
    clear c13
    obtain ⟨c14, H⟩ := oi H
    have c14b0 := eq_true c14
    have c14b1 := decide_eq_true c14
    try have c14b2 : (9223372036854775807 < ((x0_1.extract 0 ((rd t191 x8_1) : Int).toNat) ++ (⟨#[60, 62]⟩ : ByteArray)).size + (x0_1.extract ((ji11) : Int).toNat x0_1.size).size) = False := eq_false (Nat.not_lt.2 c14)
    try have c14b3 : (9223372036854775807 < ((rd t191 x8_1) : Int).toNat + 2 + (x0_1.size - ((ji11) : Int).toNat)) = False := eq_false (by have h9_ := c14; clear H; simp only [ByteArray.size_append, ByteArray.size_extract] at h9_; simp only [eq_iff_iff, iff_true, iff_false] at *; have z9_ : (⟨#[60, 62]⟩ : ByteArray).size = 2 := rfl; omega)
    have H' := Aside0.mk H
    clear H
    have p194 : 0 ≤ (x8_1 : Int) := of_decide_eq_true asm
    have q194 : x8_1 < (t191.length : Int) := of_decide_eq_true asm
    obtain ⟨ad194, e194, hx194_0⟩ := Kd.at_int (Kd.R_reads' HO_6.out).2.2 x8_1 p194 q194
    cases e194
    replace p194 := eq_true p194
    replace q194 := eq_true q194
    go_wp2
    repeat (go_quiet (fail); try go_wp2)
    go_roundg k1
    case measure => have := HK1.out; omega
    case rel => exact ⟨(((x0_1.extract 0 ((rd t191 x8_1) : Int).toNat) ++ (⟨#[60, 62]⟩ : ByteArray)) ++ (x0_1.extract ((ji11) : Int).toNat x0_1.size)), (wrap64 (x8_1 + 1)), (by first | rfl | (simp; done) | (simp only [← hji11] <;> (first | rfl | simp)) | (simp [*]; done)), (rs), H', ⟨by have := HK1.out; omega⟩, ⟨pr HO_6⟩, ⟨bw⟩⟩
   rw [if_neg c5] at H
   have c5b0 := decide_eq_false c5
   clear c5
   obtain rfl := Option.some.inj H
   go_wp2
   repeat (go_quiet (fail); try go_wp2)
   go_ret
   exact ⟨rs, bw⟩

/-! ### spec_rwRest: function 94 -/
def spec_rwRest.l0 : Nat → ByteArray → Int → Option (ByteArray × Int)
  | 0, _, _ => none
  | k + 1, x0, x4 => (spec_rwPairs.f k x0).bind fun t195 => (if (t195.length : Int) > 0 then ((spec_rwTick.f k x0).bind fun t198 => (spec_rwRest.l0 k t198 (wrap64 (x4 + 1)))) else (some (x0, x4)))
def spec_rwRest.f (k : Nat) (a0 : ByteArray) : Option (ByteArray × Int) := spec_rwRest.l0 k a0 0
theorem spec_rwRest.mono_l : ∀ k, (∀ y0 y1, LeO (spec_rwRest.l0 k y0 y1) (spec_rwRest.l0 (k + 1) y0 y1))
  | 0 => fun _ _ r h => by simp [spec_rwRest.l0] at h
  | k + 1 => by
    have ih0 := spec_rwRest.mono_l k
    · intro y0 y1
      unfold spec_rwRest.l0
      repeat' first
      | (with_reducible exact ih0 _ _)
      | (with_reducible exact spec_rwPairs.mono _ _)
      | (with_reducible exact spec_rwTick.mono _ _)
      | (with_reducible exact LeO.refl _)
      | (with_reducible exact LeO.none _)
      | (with_reducible refine LeO.ite ?_ ?_)
      | (with_reducible refine LeO.bind ?_ (fun _ => ?_))
      | exact ih0 _ _
      | exact spec_rwPairs.mono _ _
      | exact spec_rwTick.mono _ _
      | exact LeO.none _
      | refine LeO.ite ?_ ?_
      | refine LeO.bind ?_ (fun _ => ?_)
theorem spec_rwRest.mono : ∀ a0 k, LeO (spec_rwRest.f k a0) (spec_rwRest.f (k + 1) a0) := by
  intro a0 k
  have ih0 := spec_rwRest.mono_l k
  unfold spec_rwRest.f
  repeat' first
      | (with_reducible exact ih0 _ _)
      | (with_reducible exact spec_rwPairs.mono _ _)
      | (with_reducible exact spec_rwTick.mono _ _)
      | (with_reducible exact LeO.refl _)
      | (with_reducible exact LeO.none _)
      | (with_reducible refine LeO.ite ?_ ?_)
      | (with_reducible refine LeO.bind ?_ (fun _ => ?_))
      | exact ih0 _ _
      | exact spec_rwPairs.mono _ _
      | exact spec_rwTick.mono _ _
      | exact LeO.none _
      | refine LeO.ite ?_ ?_
      | refine LeO.bind ?_ (fun _ => ?_)
set_option maxHeartbeats 8000000 in
set_option maxRecDepth 100000 in
theorem spec_rwRest.calls (k : Nat) (a0 : ByteArray) (r1 : ByteArray) (r2 : Int) (w : World) (h : spec_rwRest.f k a0 = some (r1, r2)) :
  Calls Tryz.prog 94 #[.string a0] w fun e w' => e = .returned (.tuple #[.string r1, .int .i64 r2]) ∧ Below w.heap.size w w' := by
 have HB := Aside0.mk (Below.refl w.heap.size w)
 unfold spec_rwRest.f at h
 have H := h
 clear h
 have H' := Aside0.mk H
 clear H
 go_enter Tryz.func94, Tryz.ntmps94
 go_wp2
 go_loopg [0, 4] k (fun kq v0 v4 w' => ∃ (x0_1 : ByteArray) (x4_1 : Int), v0 = .string x0_1 ∧ v4 = .int .i64 x4_1 ∧ Aside0 (spec_rwRest.l0 kq x0_1 x4_1 = some (r1, r2)) ∧ Aside0 (kq ≤ k) ∧ Aside0 (Below w.heap.size w w'))
 case atStart => exact ⟨(a0), (0), (rs), (rs), H', ⟨Nat.le_refl _⟩, ⟨bw⟩⟩
 case round =>
  clear H'
  obtain ⟨x0_1, x4_1, rfl, rfl, HA, HK1, HB⟩ := hrel
  cases gk with
  | zero => exact absurd HA.out (by simp [spec_rwRest.l0])
  | succ k1 =>
   have H := HA.out
   clear HA
   simp only [spec_rwRest.l0] at H
   obtain ⟨t195, A2, H⟩ := ob H
   (try dsimp only at H)
   by_cases c3 : (t195.length : Int) > 0
   ·rw [if_pos c3] at H
    have c3b0 := decide_eq_true c3
    have c3b1 : decide (0 < t195.length) = true := decide_eq_true (by omega)
    clear c3
    obtain ⟨t198, A4, H⟩ := ob H
    (try dsimp only at H)
    have H' := Aside0.mk H
    clear H
    go_wp2_with (first | ((with_reducible refine gc 95 ?_); refine gl (some 6) Tryz.func95 #[.string x0_1] ?_; (with_reducible refine (spec_rwPairs.calls k1 x0_1 t195 _ A2.out).mono ?_); rintro e w5 ⟨v196, rfl, ho0, hb⟩; refine ⟨_, rfl, ?_⟩; have HO197 := Aside0.mk (Kd.R_lower ho0 (below_size bw)); replace HB := bs hb; (try clear hb); (try clear ho0); obtain ⟨Ao6, co6, eo6⟩ := Kd.R_slice HO197.out; subst eo6) | ((with_reducible refine gc 93 ?_); refine gl (some 10) Tryz.func93 #[.string x0_1] ?_; (with_reducible refine (spec_rwTick.calls k1 x0_1 t198 _ A4.out).mono ?_); rintro e w7 ⟨rfl, hb⟩; refine ⟨_, rfl, ?_⟩; replace HO197 := rl HO197 hb; replace HB := bs hb; (try clear hb)))
    go_roundg k1
    case measure => have := HK1.out; omega
    case rel => exact ⟨(t198), (wrap64 (x4_1 + 1)), (rs), (rs), H', ⟨by have := HK1.out; omega⟩, ⟨bw⟩⟩
   rw [if_neg c3] at H
   have c3b0 := decide_eq_false c3
   have c3b1 : decide (0 < t195.length) = false := decide_eq_false (by omega)
   clear c3
   simp only [Option.some.injEq, Prod.mk.injEq] at H
   obtain ⟨rfl, rfl⟩ := H
   go_wp2_with (first | ((with_reducible refine gc 95 ?_); refine gl (some 6) Tryz.func95 #[.string x0_1] ?_; (with_reducible refine (spec_rwPairs.calls k1 x0_1 t195 _ A2.out).mono ?_); rintro e w8 ⟨v196, rfl, ho0, hb⟩; refine ⟨_, rfl, ?_⟩; have HO197 := Aside0.mk (Kd.R_lower ho0 (below_size bw)); replace HB := bs hb; (try clear hb); (try clear ho0); obtain ⟨Ao9, co9, eo9⟩ := Kd.R_slice HO197.out; subst eo9))
   go_ret2
   exact ⟨rs, bw⟩

/-! ### spec_l1Has: function 96 -/
def spec_l1Has.l0 : Nat → Int → List Int → Int → Int → Option (Bool)
  | 0, _, _, _, _ => none
  | k + 1, x1, x7, x8, x9 => if x9 < x8 then (if 0 ≤ x9 then (if x9 < (x7.length : Int) then (if (rd x7 x9) = x1 then (some true) else (spec_l1Has.l0 k x1 x7 x8 (wrap64 (x9 + 1)))) else (none)) else (none)) else (some false)
def spec_l1Has.f (k : Nat) (l0 : List Int) (a1 : Int) : Option (Bool) := spec_l1Has.l0 k a1 l0 (l0.length : Int) 0
theorem spec_l1Has.mono_l : ∀ k, (∀ y0 y1 y2 y3, LeO (spec_l1Has.l0 k y0 y1 y2 y3) (spec_l1Has.l0 (k + 1) y0 y1 y2 y3))
  | 0 => fun _ _ _ _ r h => by simp [spec_l1Has.l0] at h
  | k + 1 => by
    have ih0 := spec_l1Has.mono_l k
    · intro y0 y1 y2 y3
      unfold spec_l1Has.l0
      repeat' first
      | (with_reducible exact ih0 _ _ _ _)
      | (with_reducible exact LeO.refl _)
      | (with_reducible exact LeO.none _)
      | (with_reducible refine LeO.ite ?_ ?_)
      | (with_reducible refine LeO.bind ?_ (fun _ => ?_))
      | exact ih0 _ _ _ _
      | exact LeO.none _
      | refine LeO.ite ?_ ?_
      | refine LeO.bind ?_ (fun _ => ?_)
theorem spec_l1Has.mono : ∀ a0 a1 k, LeO (spec_l1Has.f k a0 a1) (spec_l1Has.f (k + 1) a0 a1) := by
  intro a0 a1 k
  have ih0 := spec_l1Has.mono_l k
  unfold spec_l1Has.f
  repeat' first
      | (with_reducible exact ih0 _ _ _ _)
      | (with_reducible exact LeO.refl _)
      | (with_reducible exact LeO.none _)
      | (with_reducible refine LeO.ite ?_ ?_)
      | (with_reducible refine LeO.bind ?_ (fun _ => ?_))
      | exact ih0 _ _ _ _
      | exact LeO.none _
      | refine LeO.ite ?_ ?_
      | refine LeO.bind ?_ (fun _ => ?_)
set_option maxHeartbeats 8000000 in
set_option maxRecDepth 100000 in
theorem spec_l1Has.calls (k : Nat) (A0 : Option Addr) (c0 : Nat) (l0 : List Int) (a1 : Int) (r : Bool) (w : World) (hr0 : Kd.C (Kd.int .i64) w A0 l0.length l0) (hc0 : l0.length ≤ c0) (h : spec_l1Has.f k l0 a1 = some r) :
  Calls Tryz.prog 96 #[.slice A0 l0.length c0, .int .i64 a1] w fun e w' => e = .returned (.bool r) ∧ Drawn0 w w' := by
 have HR0 := Aside0.mk hr0
 have HC0 := Aside0.mk hc0
 clear hr0 hc0
 unfold spec_l1Has.f at h
 have H := h
 clear h
 have H' := Aside0.mk H
 clear H
 go_enter Tryz.func96, Tryz.ntmps96
 go_wp2
 go_loopg [9] k (fun kq v9 w' => ∃ (x9_1 : Int), v9 = .int .i64 x9_1 ∧ Aside0 (spec_l1Has.l0 kq a1 l0 (l0.length : Int) x9_1 = some r) ∧ Aside0 (kq ≤ k) ∧ Drawn0 w w')
 case atStart => exact ⟨(0), (rs), H', ⟨Nat.le_refl _⟩, by repeat (first | exact Drawn0.refl _ | apply Drawn0.step)⟩
 case round =>
  clear H'
  try clear p2
  obtain ⟨x9_1, rfl, HA, HK1, ⟨m1, rfl⟩⟩ := hrel
  cases gk with
  | zero => exact absurd HA.out (by simp [spec_l1Has.l0])
  | succ k1 =>
   have H := HA.out
   clear HA
   simp only [spec_l1Has.l0] at H
   by_cases c3 : x9_1 < (l0.length : Int)
   ·rw [if_pos c3] at H
    have c3b0 := decide_eq_true c3
    clear c3
    obtain ⟨c4, H⟩ := oi H
    have c4b0 := decide_eq_true c4
    clear c4
    obtain ⟨c5, H⟩ := oi H
    have c5b0 := decide_eq_true c5
    clear c5
    by_cases c6 : (rd l0 x9_1) = a1
    ·rw [if_pos c6] at H
     have c6b0 : ((rd l0 x9_1) == a1) = true := beq_iff_eq.mpr c6
     have c6b1 : ((rd l0 x9_1) != a1) = false := bne_eq_false_iff_eq.mpr c6
     clear c6
     obtain rfl := Option.some.inj H
     have p199 : 0 ≤ (x9_1 : Int) := of_decide_eq_true asm
     have q199 : x9_1 < (l0.length : Int) := of_decide_eq_true asm
     obtain ⟨ad199, e199, hx199_0⟩ := Kd.at_int HR0.out x9_1 p199 q199
     cases e199
     replace p199 := eq_true p199
     replace q199 := eq_true q199
     go_wp2
     go_ret
     exact ⟨rs, by repeat (first | exact Drawn0.refl _ | apply Drawn0.step)⟩
    rw [if_neg c6] at H
    have c6b0 : ((rd l0 x9_1) == a1) = false := beq_eq_false_iff_ne.mpr c6
    have c6b1 : ((rd l0 x9_1) != a1) = true := bne_iff_ne.mpr c6
    have H' := Aside0.mk H
    clear H
    have p199 : 0 ≤ (x9_1 : Int) := of_decide_eq_true asm
    have q199 : x9_1 < (l0.length : Int) := of_decide_eq_true asm
    obtain ⟨ad199, e199, hx199_0⟩ := Kd.at_int HR0.out x9_1 p199 q199
    cases e199
    replace p199 := eq_true p199
    replace q199 := eq_true q199
    go_wp2
    go_roundg k1
    case measure => have := HK1.out; omega
    case rel => exact ⟨(wrap64 (x9_1 + 1)), (rs), H', ⟨by have := HK1.out; omega⟩, by repeat (first | exact Drawn0.refl _ | apply Drawn0.step)⟩
   rw [if_neg c3] at H
   have c3b0 := decide_eq_false c3
   clear c3
   obtain rfl := Option.some.inj H
   go_wp2
   go_ret
   exact ⟨rs, by repeat (first | exact Drawn0.refl _ | apply Drawn0.step)⟩

end Go.Proofs.YthjbmojacgkdcaaGreatDoor.PFnRowsHidden
