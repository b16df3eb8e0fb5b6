-- Laid by xprint, a program of this session that runs over the kit's print.
import Derived.Test.YteoklfgmdcofcaaDoorPFnOrdersTurnx0
import Derived.Test.YteoklfgmdcofcaaDoorPFnOrdersTurnx2
namespace Go.Proofs.YteoklfgmdcofcaaDoor.PFnOrdersTurn
open Go.RowKit Go.Proofs.YteoklfgmdcofcaaDoorW.PrintWords Go.Proofs.YteoklfgmdcofcaaDoorW.PrintLast Go.Proofs.YteoklfgmdcofcaaDoorW.PrintMore Go.Proofs.YteoklfgmdcofcaaDoor.Sq
attribute [local go_sem] max2_int min2_int max_two min_two max_three min_three max_four min_four   -- for this text's walks alone
set_option linter.unusedVariables false
set_option linter.unusedSimpArgs false

/-! ### spec_rwGood: function 59 -/
def spec_rwGood.l0 : Nat → ByteArray → Int → Option (Bool)
  | 0, _, _ => none
  | k + 1, x0, x3 => if x3 < (x0.size : Int) then (if 0 ≤ x3 then (if (bt x0 x3) = 60 then (spec_rwGood.l0 k x0 (wrap64 (x3 + 1))) else (if (bt x0 x3) = 62 then (spec_rwGood.l0 k x0 (wrap64 (x3 + 1))) else (some false))) else (none)) else (some true)
def spec_rwGood.f (k : Nat) (a0 : ByteArray) : Option (Bool) := (spec_l1In.f (a0.size : Int) 1 60).bind fun t197 => (if t197 = true then (spec_rwGood.l0 k a0 0) else (some false))
theorem spec_rwGood.mono_l : ∀ k, (∀ y0 y1, LeO (spec_rwGood.l0 k y0 y1) (spec_rwGood.l0 (k + 1) y0 y1))
  | 0 => fun _ _ r h => by simp [spec_rwGood.l0] at h
  | k + 1 => by
    have ih0 := spec_rwGood.mono_l k
    · intro y0 y1
      unfold spec_rwGood.l0
      repeat' first
      | (with_reducible exact ih0 _ _)
      | (with_reducible exact LeO.refl _)
      | (with_reducible exact LeO.none _)
      | (with_reducible refine LeO.ite ?_ ?_)
      | (with_reducible refine LeO.bind ?_ (fun _ => ?_))
      | exact ih0 _ _
      | exact LeO.none _
      | refine LeO.ite ?_ ?_
      | refine LeO.bind ?_ (fun _ => ?_)
theorem spec_rwGood.mono : ∀ a0 k, LeO (spec_rwGood.f k a0) (spec_rwGood.f (k + 1) a0) := by
  intro a0 k
  have ih0 := spec_rwGood.mono_l k
  unfold spec_rwGood.f
  repeat' first
      | (with_reducible exact ih0 _ _)
      | (with_reducible exact LeO.refl _)
      | (with_reducible exact LeO.none _)
      | (with_reducible refine LeO.ite ?_ ?_)
      | (with_reducible refine LeO.bind ?_ (fun _ => ?_))
      | exact ih0 _ _
      | exact LeO.none _
      | refine LeO.ite ?_ ?_
      | refine LeO.bind ?_ (fun _ => ?_)
set_option maxHeartbeats 8000000 in
set_option maxRecDepth 100000 in
theorem spec_rwGood.calls (k : Nat) (a0 : ByteArray) (r : Bool) (w : World) (h : spec_rwGood.f k a0 = some r) :
  Calls Tryd.prog 59 #[.string a0] w fun e w' => e = .returned (.bool r) ∧ Drawn0 w w' := by
 unfold spec_rwGood.f at h
 have H := h
 clear h
 replace H := Option.bind_eq_some_iff.mp H
 obtain ⟨t197, A20, H⟩ := H
 (try dsimp only at H)
 have A2 := Aside0.mk A20
 clear A20
 by_cases c3 : t197 = true
 ·subst c3
  rw [if_pos rfl] at H
  have H' := Aside0.mk H
  clear H
  go_enter Tryd.func59, Tryd.ntmps59
  go_wp2_with (first | ((with_reducible refine gate_callee (f := 46) rfl ?_); refine gl (some 6) Tryd.func46 #[.int .i64 (a0.size : Int), .int .i64 1, .int .i64 60] ?_; (with_reducible refine (spec_l1In.calls (a0.size : Int) 1 60 true _ A2.out).mono ?_); rintro e w' ⟨rfl, ⟨nd, rfl⟩⟩; refine ⟨_, rfl, ?_⟩))
  go_loopg [3] k (fun kq v3 w' => ∃ (x3_1 : Int), v3 = .int .i64 x3_1 ∧ Aside0 (spec_rwGood.l0 kq a0 x3_1 = some r) ∧ Aside0 (kq ≤ k) ∧ Drawn0 w w')
  case atStart => exact ⟨(0), (rs), H', ⟨Nat.le_refl _⟩, by repeat (first | exact Drawn0.refl _ | apply Drawn0.step)⟩
  case round =>
   clear H'
   try clear p2
   try clear c3
   obtain ⟨x3_1, rfl, HA, HK1, ⟨m1, rfl⟩⟩ := hrel
   cases gk with
   | zero => exact absurd HA.out (by simp [spec_rwGood.l0])
   | succ k1 =>
    have H := HA.out
    clear HA
    simp only [spec_rwGood.l0] at H
    by_cases c4 : x3_1 < (a0.size : Int)
    ·rw [if_pos c4] at H
     have c4b0 : decide (x3_1 < (a0.size : Int)) = true := decide_eq_true c4
     clear c4
     by_cases c5 : 0 ≤ x3_1
     ·rw [if_pos c5] at H
      have c5b0 : decide (0 ≤ x3_1) = true := decide_eq_true c5
      clear c5
      by_cases c7 : (bt a0 x3_1) = 60
      ·rw [if_pos c7] at H
       have c7b0 : ((bt a0 x3_1) == 60) = true := beq_iff_eq.mpr c7
       have c7b1 : ((bt a0 x3_1) != 60) = false := bne_eq_false_iff_eq.mpr c7
       clear c7
       have H' := Aside0.mk H
       clear H
       have p6 : 0 ≤ (x3_1 : Int) := of_decide_eq_true asm
       have q6 : x3_1 < (a0.size : Int) := of_decide_eq_true asm
       have hx6 := bt_at a0 x3_1
       replace p6 := eq_true p6
       replace q6 := eq_true q6
       go_wp2
       go_roundg k1
       case measure => have := HK1.out; omega
       case rel => exact ⟨(wrap64 (x3_1 + 1)), (rs), H', ⟨by have := HK1.out; omega⟩, by repeat (first | exact Drawn0.refl _ | apply Drawn0.step)⟩
      ·rw [if_neg c7] at H
       have c7b0 : ((bt a0 x3_1) == 60) = false := beq_eq_false_iff_ne.mpr c7
       have c7b1 : ((bt a0 x3_1) != 60) = true := bne_iff_ne.mpr c7
       by_cases c9 : (bt a0 x3_1) = 62
       ·rw [if_pos c9] at H
        have c9b0 : ((bt a0 x3_1) == 62) = true := beq_iff_eq.mpr c9
        have c9b1 : ((bt a0 x3_1) != 62) = false := bne_eq_false_iff_eq.mpr c9
        clear c9
        have H' := Aside0.mk H
        clear H
        have p6 : 0 ≤ (x3_1 : Int) := of_decide_eq_true asm
        have q6 : x3_1 < (a0.size : Int) := of_decide_eq_true asm
        have hx6 := bt_at a0 x3_1
        replace p6 := eq_true p6
        replace q6 := eq_true q6
        have p8 : 0 ≤ (x3_1 : Int) := of_decide_eq_true asm
        have q8 : x3_1 < (a0.size : Int) := of_decide_eq_true asm
        have hx8 := bt_at a0 x3_1
        replace p8 := eq_true p8
        replace q8 := eq_true q8
        go_wp2
        go_roundg k1
        case measure => have := HK1.out; omega
        case rel => exact ⟨(wrap64 (x3_1 + 1)), (rs), H', ⟨by have := HK1.out; omega⟩, by repeat (first | exact Drawn0.refl _ | apply Drawn0.step)⟩
       ·rw [if_neg c9] at H
        have c9b0 : ((bt a0 x3_1) == 62) = false := beq_eq_false_iff_ne.mpr c9
        have c9b1 : ((bt a0 x3_1) != 62) = true := bne_iff_ne.mpr c9
        obtain rfl := Option.some.inj H
        have p6 : 0 ≤ (x3_1 : Int) := of_decide_eq_true asm
        have q6 : x3_1 < (a0.size : Int) := of_decide_eq_true asm
        have hx6 := bt_at a0 x3_1
        replace p6 := eq_true p6
        replace q6 := eq_true q6
        have p8 : 0 ≤ (x3_1 : Int) := of_decide_eq_true asm
        have q8 : x3_1 < (a0.size : Int) := of_decide_eq_true asm
        have hx8 := bt_at a0 x3_1
        replace p8 := eq_true p8
        replace q8 := eq_true q8
        go_wp2
        go_ret
        exact ⟨rs, by repeat (first | exact Drawn0.refl _ | apply Drawn0.step)⟩
     ·rw [if_neg c5] at H
      exact absurd H (by simp)
    ·rw [if_neg c4] at H
     have c4b0 : decide (x3_1 < (a0.size : Int)) = false := decide_eq_false c4
     clear c4
     obtain rfl := Option.some.inj H
     go_wp2
     go_ret
     exact ⟨rs, by repeat (first | exact Drawn0.refl _ | apply Drawn0.step)⟩
 ·replace c3 := Bool.eq_false_iff.mpr c3
  subst c3
  rw [if_neg (show ¬ (false = true) by decide)] at H
  obtain rfl := Option.some.inj H
  go_enter Tryd.func59, Tryd.ntmps59
  go_wp2_with (first | ((with_reducible refine gate_callee (f := 46) rfl ?_); refine gl (some 6) Tryd.func46 #[.int .i64 (a0.size : Int), .int .i64 1, .int .i64 60] ?_; (with_reducible refine (spec_l1In.calls (a0.size : Int) 1 60 false _ A2.out).mono ?_); rintro e w' ⟨rfl, ⟨nd, rfl⟩⟩; refine ⟨_, rfl, ?_⟩))
  go_ret
  exact ⟨rs, by repeat (first | exact Drawn0.refl _ | apply Drawn0.step)⟩

/-! ### spec_odGood: function 45 -/
def spec_odGood.f (k : Nat) (a0 : ByteArray) : Option (Bool) := (spec_rwGood.f k a0).bind fun t198 => (if t198 = true then (some (decide ((a0.size : Int) ≤ 40))) else (some false))
theorem spec_odGood.mono : ∀ a0 k, LeO (spec_odGood.f k a0) (spec_odGood.f (k + 1) a0) := by
  intro a0 k
  unfold spec_odGood.f
  repeat' first
      | (with_reducible exact spec_rwGood.mono _ _)
      | (with_reducible exact LeO.refl _)
      | (with_reducible exact LeO.none _)
      | (with_reducible refine LeO.ite ?_ ?_)
      | (with_reducible refine LeO.bind ?_ (fun _ => ?_))
      | exact spec_rwGood.mono _ _
      | exact LeO.none _
      | refine LeO.ite ?_ ?_
      | refine LeO.bind ?_ (fun _ => ?_)
set_option maxHeartbeats 8000000 in
set_option maxRecDepth 100000 in
theorem spec_odGood.calls (k : Nat) (a0 : ByteArray) (r : Bool) (w : World) (h : spec_odGood.f k a0 = some r) :
  Calls Tryd.prog 45 #[.string a0] w fun e w' => e = .returned (.bool r) ∧ Drawn0 w w' := by
 unfold spec_odGood.f at h
 have H := h
 clear h
 replace H := Option.bind_eq_some_iff.mp H
 obtain ⟨t198, A20, H⟩ := H
 (try dsimp only at H)
 have A2 := Aside0.mk A20
 clear A20
 by_cases c3 : t198 = true
 ·subst c3
  rw [if_pos rfl] at H
  obtain rfl := Option.some.inj H
  go_enter Tryd.func45, Tryd.ntmps45
  go_wp2_with (first | ((with_reducible refine gate_callee (f := 59) rfl ?_); refine gl (some 4) Tryd.func59 #[.string a0] ?_; (with_reducible refine (spec_rwGood.calls k a0 true _ A2.out).mono ?_); rintro e w' ⟨rfl, ⟨nd, rfl⟩⟩; refine ⟨_, rfl, ?_⟩))
  go_ret
  exact ⟨rs, by repeat (first | exact Drawn0.refl _ | apply Drawn0.step)⟩
 ·replace c3 := Bool.eq_false_iff.mpr c3
  subst c3
  rw [if_neg (show ¬ (false = true) by decide)] at H
  obtain rfl := Option.some.inj H
  go_enter Tryd.func45, Tryd.ntmps45
  go_wp2_with (first | ((with_reducible refine gate_callee (f := 59) rfl ?_); refine gl (some 4) Tryd.func59 #[.string a0] ?_; (with_reducible refine (spec_rwGood.calls k a0 false _ A2.out).mono ?_); rintro e w' ⟨rfl, ⟨nd, rfl⟩⟩; refine ⟨_, rfl, ?_⟩))
  go_ret
  exact ⟨rs, by repeat (first | exact Drawn0.refl _ | apply Drawn0.step)⟩

/-! ### spec_odTwo: function 35 -/
def spec_odTwo.f (k : Nat) (a0 : ByteArray) (a1 : ByteArray) : Option (Bool) := (spec_odGood.f k a0).bind fun t199 => (if t199 = true then ((spec_odGood.f k a1).bind fun t200 => (if t200 = true then (some ((a0.size : Int) == (a1.size : Int))) else (some false))) else (some false))
theorem spec_odTwo.mono : ∀ a0 a1 k, LeO (spec_odTwo.f k a0 a1) (spec_odTwo.f (k + 1) a0 a1) := by
  intro a0 a1 k
  unfold spec_odTwo.f
  repeat' first
      | (with_reducible exact spec_odGood.mono _ _)
      | (with_reducible exact LeO.refl _)
      | (with_reducible exact LeO.none _)
      | (with_reducible refine LeO.ite ?_ ?_)
      | (with_reducible refine LeO.bind ?_ (fun _ => ?_))
      | exact spec_odGood.mono _ _
      | exact LeO.none _
      | refine LeO.ite ?_ ?_
      | refine LeO.bind ?_ (fun _ => ?_)
set_option maxHeartbeats 8000000 in
set_option maxRecDepth 100000 in
theorem spec_odTwo.calls (k : Nat) (a0 : ByteArray) (a1 : ByteArray) (r : Bool) (w : World) (h : spec_odTwo.f k a0 a1 = some r) :
  Calls Tryd.prog 35 #[.string a0, .string a1] w fun e w' => e = .returned (.bool r) ∧ Drawn0 w w' := by
 unfold spec_odTwo.f at h
 have H := h
 clear h
 replace H := Option.bind_eq_some_iff.mp H
 obtain ⟨t199, A30, H⟩ := H
 (try dsimp only at H)
 have A3 := Aside0.mk A30
 clear A30
 by_cases c4 : t199 = true
 ·subst c4
  rw [if_pos rfl] at H
  replace H := Option.bind_eq_some_iff.mp H
  obtain ⟨t200, A50, H⟩ := H
  (try dsimp only at H)
  have A5 := Aside0.mk A50
  clear A50
  by_cases c6 : t200 = true
  ·subst c6
   rw [if_pos rfl] at H
   obtain rfl := Option.some.inj H
   go_enter Tryd.func35, Tryd.ntmps35
   go_wp2_with (first | ((with_reducible refine gate_callee (f := 45) rfl ?_); refine gl (some 6) Tryd.func45 #[.string a0] ?_; (with_reducible refine (spec_odGood.calls k a0 true _ A3.out).mono ?_); rintro e w' ⟨rfl, ⟨nd, rfl⟩⟩; refine ⟨_, rfl, ?_⟩) | (go_at_call 45; (with_reducible refine (spec_odGood.calls k a1 true _ A5.out).mono ?_); rintro e w' ⟨rfl, ⟨nd, rfl⟩⟩))
   go_ret
   exact ⟨rs, by repeat (first | exact Drawn0.refl _ | apply Drawn0.step)⟩
  ·replace c6 := Bool.eq_false_iff.mpr c6
   subst c6
   rw [if_neg (show ¬ (false = true) by decide)] at H
   obtain rfl := Option.some.inj H
   go_enter Tryd.func35, Tryd.ntmps35
   go_wp2_with (first | ((with_reducible refine gate_callee (f := 45) rfl ?_); refine gl (some 6) Tryd.func45 #[.string a0] ?_; (with_reducible refine (spec_odGood.calls k a0 true _ A3.out).mono ?_); rintro e w' ⟨rfl, ⟨nd, rfl⟩⟩; refine ⟨_, rfl, ?_⟩) | (go_at_call 45; (with_reducible refine (spec_odGood.calls k a1 false _ A5.out).mono ?_); rintro e w' ⟨rfl, ⟨nd, rfl⟩⟩))
   go_ret
   exact ⟨rs, by repeat (first | exact Drawn0.refl _ | apply Drawn0.step)⟩
 ·replace c4 := Bool.eq_false_iff.mpr c4
  subst c4
  rw [if_neg (show ¬ (false = true) by decide)] at H
  obtain rfl := Option.some.inj H
  go_enter Tryd.func35, Tryd.ntmps35
  go_wp2_with (first | ((with_reducible refine gate_callee (f := 45) rfl ?_); refine gl (some 6) Tryd.func45 #[.string a0] ?_; (with_reducible refine (spec_odGood.calls k a0 false _ A3.out).mono ?_); rintro e w' ⟨rfl, ⟨nd, rfl⟩⟩; refine ⟨_, rfl, ?_⟩))
  go_ret
  exact ⟨rs, by repeat (first | exact Drawn0.refl _ | apply Drawn0.step)⟩

/-! ### spec_odRuns: function 36 -/
def spec_odRuns.l0 : Nat → ByteArray → ByteArray → List (List Int) → Int → ByteArray → Option ((List (List Int)))
  | 0, _, _, _, _, _ => none
  | k + 1, x0, x1, x5, x202000, x202001 => if x202000 < (x202001.size : Int) then (if 0 ≤ x202000 then (if bt x202001 x202000 < 128 then (if x202000 < (x0.size : Int) then (if x202000 < (x1.size : Int) then (if (bt x0 x202000) = (bt x1 x202000) then (spec_odRuns.l0 k x0 x1 x5 (x202000 + 1) x202001) else (if (x5.length : Int) > 0 then (if 0 ≤ (wrap64 ((x5.length : Int) - 1)) then (if (wrap64 ((x5.length : Int) - 1)) < (x5.length : Int) then (if 1 < ((rd_L3 x5 (wrap64 ((x5.length : Int) - 1))).length : Int) then (if (rd (rd_L3 x5 (wrap64 ((x5.length : Int) - 1))) 1) = (wrap64 (x202000 - 1)) then (spec_odRuns.l0 k x0 x1 (x5.set ((wrap64 ((x5.length : Int) - 1)) : Int).toNat ((rd_L3 x5 (wrap64 ((x5.length : Int) - 1))).set (1 : Int).toNat x202000)) (x202000 + 1) x202001) else (if x5.length < 5864062014805 then (spec_odRuns.l0 k x0 x1 (x5 ++ [(([x202000, x202000] : List Int))]) (x202000 + 1) x202001) else (none))) else (none)) else (none)) else (none)) else (if x5.length < 5864062014805 then (spec_odRuns.l0 k x0 x1 (x5 ++ [(([x202000, x202000] : List Int))]) (x202000 + 1) x202001) else (none)))) else (none)) else (none)) else (none)) else (none)) else (some x5)
def spec_odRuns.f (k : Nat) (a0 : ByteArray) (a1 : ByteArray) : Option ((List (List Int))) := spec_odRuns.l0 k a0 a1 ([] : List (List Int)) 0 a0
theorem spec_odRuns.mono_l : ∀ k, (∀ y0 y1 y2 y3 y4, LeO (spec_odRuns.l0 k y0 y1 y2 y3 y4) (spec_odRuns.l0 (k + 1) y0 y1 y2 y3 y4))
  | 0 => fun _ _ _ _ _ r h => by simp [spec_odRuns.l0] at h
  | k + 1 => by
    have ih0 := spec_odRuns.mono_l k
    · intro y0 y1 y2 y3 y4
      unfold spec_odRuns.l0
      repeat' first
      | (with_reducible exact ih0 _ _ _ _ _)
      | (with_reducible exact LeO.refl _)
      | (with_reducible exact LeO.none _)
      | (with_reducible refine LeO.ite ?_ ?_)
      | (with_reducible refine LeO.bind ?_ (fun _ => ?_))
      | exact ih0 _ _ _ _ _
      | exact LeO.none _
      | refine LeO.ite ?_ ?_
      | refine LeO.bind ?_ (fun _ => ?_)
theorem spec_odRuns.mono : ∀ a0 a1 k, LeO (spec_odRuns.f k a0 a1) (spec_odRuns.f (k + 1) a0 a1) := by
  intro a0 a1 k
  have ih0 := spec_odRuns.mono_l k
  unfold spec_odRuns.f
  repeat' first
      | (with_reducible exact ih0 _ _ _ _ _)
      | (with_reducible exact LeO.refl _)
      | (with_reducible exact LeO.none _)
      | (with_reducible refine LeO.ite ?_ ?_)
      | (with_reducible refine LeO.bind ?_ (fun _ => ?_))
      | exact ih0 _ _ _ _ _
      | exact LeO.none _
      | refine LeO.ite ?_ ?_
      | refine LeO.bind ?_ (fun _ => ?_)
set_option maxHeartbeats 8000000 in
set_option maxRecDepth 100000 in
theorem spec_odRuns.calls (k : Nat) (a0 : ByteArray) (a1 : ByteArray) (r : List (List Int)) (w : World) (h : spec_odRuns.f k a0 a1 = some r) :
  Calls Tryd.prog 36 #[.string a0, .string a1] w fun e w' => ∃ v0_ : Value, e = .returned (v0_) ∧ Kd.S (Kd.slice 3 (Kd.int .i64)) 31 w' w.heap.size (fun _ => True) v0_ r ∧ Below w.heap.size w w' := by
 have HB := Aside0.mk (Below.refl w.heap.size w)
 unfold spec_odRuns.f at h
 have H := h
 clear h
 have H' := Aside0.mk H
 clear H
 go_enter Tryd.func36, Tryd.ntmps36
 iterate 4 ((try go_wp2_with (first | ((with_reducible refine gate_dst (N := 9) rfl ?_); refine iter_event ?hg (N := 9) ?hd (s := a0) ?hx Tryd.underlying9 ?_; (case hd => rfl); (case hg => rfl); (case hx => exact ⟨_, rfl, by first | rfl | (go_simp; done) | (go_simp; rfl)⟩); intro gb201 hg w3 hbox hb; have IT201 := Aside0.mk (hbox); have GW201 := gs hg; have GE201 := gs hg; replace HB := bs hb; clear hb hbox hg))); (try go_quiet (fail)))
 (try simp only [Act.put, List.setIfInBounds_toArray, List.set_cons_zero, List.set_cons_succ])
 go_loopg [5] k (fun kq v5 w' => ∃ (x5_1 : List (List Int)) (x202000_1 : Int), Aside0 (spec_odRuns.l0 kq a0 a1 x5_1 x202000_1 a0 = some r) ∧ Aside0 (kq ≤ k) ∧ Aside0 (Kd.S (Kd.slice 3 (Kd.int .i64)) 31 w' w.heap.size (fun _ => True) v5 x5_1) ∧ Aside0 (w'.heap[gb201]? = some (.stringIter a0 (x202000_1 : Int).toNat)) ∧ Aside0 (Below w.heap.size w w'))
 case atStart => exact ⟨(([] : List (List Int))), (0), H', ⟨Nat.le_refl _⟩, ⟨by first | exact Kd.S_nil _ _ _ _ _ | exact Kd.N_nil _ _ _ _ _ | exact Kd.V_nil _ _ _ _ _ | exact Kd.Q_nil _ _ _ _ _ | exact Kd.R_nil _ _ _ _ _⟩, ⟨by (with_reducible repeat (first | refine blk_drewN ?_ _ | refine blk_drew ?_ | refine blk_alloc ?_ _)); exact IT201.out⟩, ⟨bw⟩⟩
 case round =>
  clear H'
  try clear p2
  try clear c3
  obtain ⟨x5_1, x202000_1, HA, HK1, HO_5, IT201, HB⟩ := hrel
  cases gk with
  | zero => exact absurd HA.out (by simp [spec_odRuns.l0])
  | succ k1 =>
   have H := HA.out
   clear HA
   simp only [spec_odRuns.l0] at H
   by_cases c4 : x202000_1 < (a0.size : Int)
   ·rw [if_pos c4] at H
    have c4b0 : decide (x202000_1 < (a0.size : Int)) = true := decide_eq_true c4
    clear c4
    by_cases c5 : 0 ≤ x202000_1
    ·rw [if_pos c5] at H
     have c5b0 := eq_true c5
     have c5b1 : decide (0 ≤ x202000_1) = true := decide_eq_true c5
     clear c5
     by_cases c6 : bt a0 x202000_1 < 128
     ·rw [if_pos c6] at H
      have c6b0 := eq_true c6
      have c6b1 : decide (bt a0 x202000_1 < 128) = true := decide_eq_true c6
      clear c6
      by_cases c7 : x202000_1 < (a0.size : Int)
      ·rw [if_pos c7] at H
       have c7b0 : decide (x202000_1 < (a0.size : Int)) = true := decide_eq_true c7
       clear c7
       by_cases c9 : x202000_1 < (a1.size : Int)
       ·rw [if_pos c9] at H
        have c9b0 : decide (x202000_1 < (a1.size : Int)) = true := decide_eq_true c9
        clear c9
        by_cases c11 : (bt a0 x202000_1) = (bt a1 x202000_1)
        ·rw [if_pos c11] at H
         have c11b0 : ((bt a0 x202000_1) == (bt a1 x202000_1)) = true := beq_iff_eq.mpr c11
         have c11b1 : ((bt a0 x202000_1) != (bt a1 x202000_1)) = false := bne_eq_false_iff_eq.mpr c11
         clear c11
         have H' := Aside0.mk H
         clear H
         iterate 4 ((try go_wp2_with (first | ((with_reducible refine gate_dst (N := 10) rfl ?_); refine next_event ?hg (N := 10) ?hd (g := gb201) (s := a0) (p := x202000_1) ?hx ?hb ?h0 ?h1 ?h2 ?_; (case hd => rfl); (case hg => rfl); (case hx => exact ⟨_, rfl, by first | rfl | (go_simp; done) | (go_simp; rfl)⟩); (case hb => exact (by (with_reducible repeat (first | refine blk_drewN ?_ _ | refine blk_drew ?_ | refine blk_alloc ?_ _)); exact IT201.out)); (case h0 => first | (with_reducible decide) | exact of_decide_eq_true asm); (case h1 => exact of_decide_eq_true asm); (case h2 => exact of_decide_eq_true asm); intro w12 hbox hk; replace HO_5 := Aside0.mk (Kd.S_turned (by (with_reducible repeat (first | apply Kd.S_alloc | apply Kd.S_drewN | apply Kd.S_drew)); exact HO_5.out) (by (with_reducible repeat (first | refine blk_drewN ?_ _ | refine blk_drew ?_ | refine blk_alloc ?_ _)); exact IT201.out) hk); replace IT201 := Aside0.mk (hbox); replace HB := Aside0.mk (below_turned bw GE201.out hk); clear hbox hk; have p8 : 0 ≤ (x202000_1 : Int) := of_decide_eq_true asm; have q8 : x202000_1 < (a0.size : Int) := of_decide_eq_true asm; have hx8 := bt_at a0 x202000_1; replace p8 := eq_true p8; replace q8 := eq_true q8; have p10 : 0 ≤ (x202000_1 : Int) := of_decide_eq_true asm; have q10 : x202000_1 < (a1.size : Int) := of_decide_eq_true asm; have hx10 := bt_at a1 x202000_1; replace p10 := eq_true p10; replace q10 := eq_true q10))); (try go_quiet (fail)))
         go_roundg k1
         case measure => have := HK1.out; omega
         case rel => exact ⟨(x5_1), (x202000_1 + 1), H', ⟨by have := HK1.out; omega⟩, ⟨by (with_reducible repeat (first | apply Kd.S_alloc | apply Kd.S_drewN | apply Kd.S_drew)); exact HO_5.out⟩, ⟨by (with_reducible repeat (first | refine blk_drewN ?_ _ | refine blk_drew ?_ | refine blk_alloc ?_ _)); exact IT201.out⟩, ⟨bw⟩⟩
        ·rw [if_neg c11] at H
         have c11b0 : ((bt a0 x202000_1) == (bt a1 x202000_1)) = false := beq_eq_false_iff_ne.mpr c11
         have c11b1 : ((bt a0 x202000_1) != (bt a1 x202000_1)) = true := bne_iff_ne.mpr c11
         by_cases c13 : (x5_1.length : Int) > 0
         ·rw [if_pos c13] at H
          have c13b0 : decide (0 < (x5_1.length : Int)) = true := decide_eq_true c13
          have c13b1 : decide (0 < x5_1.length) = true := decide_eq_true (by omega)
          clear c13
          obtain ⟨ji14, hji14⟩ : ∃ j_ : Int, (wrap64 ((x5_1.length : Int) - 1)) = j_ := ⟨_, rfl⟩
          replace H : (if 0 ≤ (ji14) then (if (ji14) < (x5_1.length : Int) then (if 1 < ((rd_L3 x5_1 (ji14)).length : Int) then (if (rd (rd_L3 x5_1 (ji14)) 1) = (wrap64 (x202000_1 - 1)) then (spec_odRuns.l0 k1 a0 a1 (x5_1.set ((ji14) : Int).toNat ((rd_L3 x5_1 (ji14)).set (1 : Int).toNat x202000_1)) (x202000_1 + 1) a0) else (if x5_1.length < 5864062014805 then (spec_odRuns.l0 k1 a0 a1 (x5_1 ++ [(([x202000_1, x202000_1] : List Int))]) (x202000_1 + 1) a0) else (none))) else (none)) else (none)) else (none)) = some r := by first | (rw [hji14] at H; exact H) | (simp only [hji14] at H ⊢; exact H)
          have hji14w : (IntKind.i64.wrap ((x5_1.length : Int) - 1)) = ji14 := (i64_w _).trans hji14
          by_cases c15 : 0 ≤ (ji14)
          ·rw [if_pos c15] at H
           have c15b0 : decide (0 ≤ (ji14)) = true := decide_eq_true c15
           clear c15
           by_cases c16 : (ji14) < (x5_1.length : Int)
           ·rw [if_pos c16] at H
            have c16b0 : decide ((ji14) < (x5_1.length : Int)) = true := decide_eq_true c16
            clear c16
            by_cases c17 : 1 < ((rd_L3 x5_1 (ji14)).length : Int)
            ·rw [if_pos c17] at H
             have c17b0 : decide (1 < ((rd_L3 x5_1 (ji14)).length : Int)) = true := decide_eq_true c17
             have c17b1 : decide (1 < (rd_L3 x5_1 (ji14)).length) = true := decide_eq_true (by omega)
             clear c17
             by_cases c18 : (rd (rd_L3 x5_1 (ji14)) 1) = (wrap64 (x202000_1 - 1))
             ·rw [if_pos c18] at H
              have c18b0 : ((rd (rd_L3 x5_1 (ji14)) 1) == (wrap64 (x202000_1 - 1))) = true := beq_iff_eq.mpr c18
              have c18b1 : ((rd (rd_L3 x5_1 (ji14)) 1) != (wrap64 (x202000_1 - 1))) = false := bne_eq_false_iff_eq.mpr c18
              clear c18
              obtain ⟨y205, hy205⟩ : ∃ y_ : List Int, y_ = ((rd_L3 x5_1 (ji14)).set (1 : Int).toNat x202000_1) := ⟨_, rfl⟩
              replace H : (spec_odRuns.l0 k1 a0 a1 (x5_1.set ((ji14) : Int).toNat y205) (x202000_1 + 1) a0) = some r := by first | (rw [hy205]; with_reducible exact H) | (have H2_ := (Option.bind_some _ _).symm.trans H; rw [hy205]; with_reducible exact H2_) | (have H2_ := (Option.bind_some _ _).symm.trans H; with_reducible exact H2_) | with_reducible exact H | (rw [hy205]; exact H) | exact H
              have Ny205 := Aside0.mk hy205
              clear hy205
              obtain ⟨y207, hy207⟩ : ∃ y_ : List (List Int), y_ = (x5_1.set ((ji14) : Int).toNat y205) := ⟨_, rfl⟩
              replace H : (spec_odRuns.l0 k1 a0 a1 y207 (x202000_1 + 1) a0) = some r := by first | (rw [hy207]; with_reducible exact H) | (have H2_ := (Option.bind_some _ _).symm.trans H; rw [hy207]; with_reducible exact H2_) | (have H2_ := (Option.bind_some _ _).symm.trans H; with_reducible exact H2_) | with_reducible exact H | (rw [hy207]; exact H) | exact H
              have Ny207 := Aside0.mk hy207
              clear hy207
              have H' := Aside0.mk H
              clear H
              iterate 4 ((try go_wp2_with (first | ((with_reducible refine gate_dst (N := 10) rfl ?_); refine next_event ?hg (N := 10) ?hd (g := gb201) (s := a0) (p := x202000_1) ?hx ?hb ?h0 ?h1 ?h2 ?_; (case hd => rfl); (case hg => rfl); (case hx => exact ⟨_, rfl, by first | rfl | (go_simp; done) | (go_simp; rfl)⟩); (case hb => exact (by (with_reducible repeat (first | refine blk_drewN ?_ _ | refine blk_drew ?_ | refine blk_alloc ?_ _)); exact IT201.out)); (case h0 => first | (with_reducible decide) | exact of_decide_eq_true asm); (case h1 => exact of_decide_eq_true asm); (case h2 => exact of_decide_eq_true asm); intro w20 hbox hk; replace HO_5 := Aside0.mk (Kd.S_turned (by (with_reducible repeat (first | apply Kd.S_alloc | apply Kd.S_drewN | apply Kd.S_drew)); exact HO_5.out) (by (with_reducible repeat (first | refine blk_drewN ?_ _ | refine blk_drew ?_ | refine blk_alloc ?_ _)); exact IT201.out) hk); replace IT201 := Aside0.mk (hbox); replace HB := Aside0.mk (below_turned bw GE201.out hk); clear hbox hk; have p8 : 0 ≤ (x202000_1 : Int) := of_decide_eq_true asm; have q8 : x202000_1 < (a0.size : Int) := of_decide_eq_true asm; have hx8 := bt_at a0 x202000_1; replace p8 := eq_true p8; replace q8 := eq_true q8; have p10 : 0 ≤ (x202000_1 : Int) := of_decide_eq_true asm; have q10 : x202000_1 < (a1.size : Int) := of_decide_eq_true asm; have hx10 := bt_at a1 x202000_1; replace p10 := eq_true p10; replace q10 := eq_true q10; obtain ⟨Ao21, co21, eo21⟩ := Kd.S_slice HO_5.out; subst eo21; have p202 : 0 ≤ ((ji14) : Int) := of_decide_eq_true asm; have q202 : (ji14) < (x5_1.length : Int) := of_decide_eq_true asm; obtain ⟨ad202, A202_0, c202_0, e202, hx202_0, hl202_0, hi202_0⟩ := at_L3 (Kd.S_reads' HO_5.out).2.2 (ji14) p202 q202; cases e202; obtain ⟨ce202, hce202, hMe202, hcc202⟩ := Kd.S_get HO_5.out [] (ji14) p202 (by first | exact q202 | exact of_decide_eq_true asm | (have e_ := (Kd.S_reads' HO_5.out).1; omega)); obtain ⟨ve202_0, rfl, ge202_0⟩ := hMe202; have hv202_0 := hcc202 0 _ rfl; rw [Nat.add_zero, show ((Kd.slice 3 (Kd.int .i64))).sz = 1 from rfl, Nat.mul_one] at hv202_0; replace hv202_0 := Option.some.inj (hv202_0.symm.trans hx202_0); rw [hv202_0] at ge202_0; have HL202_0 := Aside0.mk (show Kd.R (Kd.int .i64) 3 _ _ _ _ (rd_L3 x5_1 (ji14)) from ge202_0); clear hv202_0 ge202_0; have HX202_0 := Aside0.mk hx202_0; clear hcc202 hce202; have HR202_0 := Aside0.mk hi202_0; have HC202_0 := Aside0.mk hl202_0; clear hi202_0 hl202_0; replace p202 := eq_true p202; replace q202 := eq_true q202; have p203 : 0 ≤ (1 : Int) := (by omega); have q203 : 1 < ((rd_L3 x5_1 (ji14)).length : Int) := of_decide_eq_true asm; obtain ⟨ad203, e203, hx203_0⟩ := Kd.at_int (by repeat (first | (with_reducible exact HR202_0.out) | (with_reducible refine Kd.C_alloc ?_ _) | (with_reducible refine Kd.C_drewN ?_ _) | (with_reducible refine Kd.C_drew ?_) | exact HR202_0.out)) 1 p203 q203; cases e203; (try simp only [show (1 : Int).toNat = 1 from rfl, Nat.reduceMul, Nat.reduceEqDiff, Go.Addr.add, ↓reduceIte] at hx203_0); have qi203 : (1 < (rd_L3 x5_1 (ji14)).length) = True := eq_true (by omega); (try rw [show ((1 : Int)).toNat = 1 from rfl] at hx203_0); replace p203 := eq_true p203; replace q203 := eq_true q203; have p204 : 0 ≤ ((ji14) : Int) := of_decide_eq_true asm; have q204 : (ji14) < (x5_1.length : Int) := of_decide_eq_true asm; obtain ⟨ad204, A204_0, c204_0, e204, hx204_0, hl204_0, hi204_0⟩ := at_L3 (Kd.S_reads' HO_5.out).2.2 (ji14) p204 q204; obtain rfl : ad202 = ad204 := (by injection e204); obtain ⟨ce204, hce204, hMe204, hcc204⟩ := Kd.S_get HO_5.out [] (ji14) p204 (by first | exact q204 | exact of_decide_eq_true asm | (have e_ := (Kd.S_reads' HO_5.out).1; omega)); obtain ⟨ve204_0, rfl, ge204_0⟩ := hMe204; have hv204_0 := hcc204 0 _ rfl; rw [Nat.add_zero, show ((Kd.slice 3 (Kd.int .i64))).sz = 1 from rfl, Nat.mul_one] at hv204_0; replace hv204_0 := Option.some.inj (hv204_0.symm.trans hx204_0); rw [hv204_0] at ge204_0; have HL204_0 := Aside0.mk (show Kd.R (Kd.int .i64) 3 _ _ _ _ (rd_L3 x5_1 (ji14)) from ge204_0); clear hv204_0 ge204_0; have HX204_0 := Aside0.mk hx204_0; clear hcc204 hce204; have HR204_0 := Aside0.mk hi204_0; have HC204_0 := Aside0.mk hl204_0; clear hi204_0 hl204_0; replace p204 := eq_true p204; replace q204 := eq_true q204; have ea_ := Option.some.inj (hx202_0.symm.trans hx204_0); injection ea_ with ea_ en_ ec_; subst ea_; subst ec_; clear en_; have p19 : 0 ≤ (1 : Int) := (by omega); have q19 : (1 : Int) < (((rd_L3 x5_1 (ji14)).length : Int) : Int) := of_decide_eq_true asm; have qi19 : (1 < (rd_L3 x5_1 (ji14)).length) = True := eq_true (by omega); obtain ⟨go19, co19, eo19, gb19, gl19, cl19, HG19⟩ := Kd.R_form HL204_0.out (by omega); (first | cases eo19 | (injection eo19 with ea_ en_ ec_; (first | subst ea_ | (injection ea_ with ea_; subst ea_)); subst ec_; clear en_)); have GB19 := Aside0.mk gb19; have GG19 := Aside0.mk HG19; clear gb19 gl19 HG19; (first | simp only [add_plain] at hx203_0 | skip); obtain ⟨hx19_0, hf19_0⟩ := Kd.R_celln 0 HL204_0.out (1 : Int) p19 q19; (try rw [show ((1 : Int)).toNat = 1 from rfl] at hx19_0); (try simp only [Nat.reduceMul, Nat.zero_mul, Nat.zero_add, Nat.reduceAdd] at hx19_0); (try rw [show ((1 : Int)).toNat = 1 from rfl] at hf19_0); (try simp only [Nat.reduceMul, Nat.zero_mul, Nat.zero_add, Nat.reduceAdd] at hf19_0); replace p19 := eq_true p19; replace q19 := eq_true q19; have hq22 : ((ji14) : Int) < (x5_1.length : Int) := (by have h_ : ((ji14) : Int) < ((x5_1.length : Int) : Int) := of_decide_eq_true asm; first | exact h_ | (have e_ := (Kd.S_reads' HO_5.out).1; omega) | simpa only [List.length_set, List.length_set] using h_); obtain ⟨oki22, ce22, hcl22, hM22, hcc22, hok22, hbk22⟩ := Kd.S_borrow HO_5.out [] ((ji14) : Int) (of_decide_eq_true asm) hq22; obtain ⟨ve22_0, rfl, ge22_0⟩ := hM22; have hv22 := hcc22 0 _ rfl; rw [Nat.add_zero, show ((Kd.slice 3 (Kd.int .i64))).sz = 1 from rfl, Nat.mul_one] at hv22; replace hv22 := Option.some.inj (hv22.symm.trans HX204_0.out); subst hv22; clear hcc22 hcl22; replace ge22_0 := (show Kd.R (Kd.int .i64) 3 _ _ _ _ (rd_L3 x5_1 (ji14)) from ge22_0); have HP22 := Kd.R_putg ge22_0 (1 : Int) x202000_1) | ((with_reducible refine gate_store (t := 3) (p := 42) rfl ?_); (try (rw [drewN_self w20]; generalize hq_ : World.drewN w20 _ = w20; have n0_ := Aside0.mk (Kd.S_at hq_ HO_5.out); have n1_ := Aside0.mk (Kd.R_at hq_ HL204_0.out); have n9_ : Aside0 (w20.cell? (ad202.add (ji14).toNat) = some _) := ⟨by rw [← hq_]; exact HX204_0.out⟩; have n2_ := Aside0.mk (blk_at hq_ IT201.out); have n3_ := Aside0.mk (below_at hq_ HB.out); clear hq_ HO_5 HL204_0 HX204_0 IT201 HB; have HO_5 := n0_; have HL204_0 := n1_; have HX204_0 := n9_; have IT201 := n2_; have HB := n3_; clear n0_ n1_ n2_ n3_ n9_; (obtain ⟨hx19_0, hf19_0⟩ := Kd.R_celln 0 HL204_0.out (1 : Int) (of_eq_true p19) (of_eq_true q19)); (try rw [show ((1 : Int)).toNat = 1 from rfl] at hx19_0); (try simp only [Nat.reduceMul, Nat.zero_mul, Nat.zero_add, Nat.reduceAdd] at hx19_0); (try rw [show ((1 : Int)).toNat = 1 from rfl] at hf19_0); (try simp only [Nat.reduceMul, Nat.zero_mul, Nat.zero_add, Nat.reduceAdd] at hf19_0); (try (have hq22 : ((ji14) : Int) < (x5_1.length : Int) := (by have h_ : ((ji14) : Int) < ((x5_1.length : Int) : Int) := of_decide_eq_true asm; first | exact h_ | (have e_ := (Kd.S_reads' HO_5.out).1; omega) | simpa only [List.length_set, List.length_set] using h_))); (try (obtain ⟨oki22, ce22, hcl22, hM22, hcc22, hok22, hbk22⟩ := Kd.S_borrow HO_5.out [] ((ji14) : Int) (of_decide_eq_true asm) hq22)); (try (obtain ⟨ve22_0, rfl, ge22_0⟩ := hM22)); (try (have hv22 := hcc22 0 _ rfl)); (try (rw [Nat.add_zero, show ((Kd.slice 3 (Kd.int .i64))).sz = 1 from rfl, Nat.mul_one] at hv22)); (try (replace hv22 := Option.some.inj (hv22.symm.trans HX204_0.out))); (try (subst hv22)); (try (clear hcc22 hcl22)); (try (replace ge22_0 := (show Kd.R (Kd.int .i64) 3 _ _ _ _ (rd_L3 x5_1 (ji14)) from ge22_0))); (try (have HP22 := Kd.R_putg ge22_0 (1 : Int) x202000_1)))); refine store_event (t := 3) (p := 42) (v := ?vo_w23) (w1 := (w20.setCell ⟨go19, 1, none⟩ (.int .i64 x202000_1))) ?hg ?ho ?hn ?hr ?_; (case ho => rfl); (case hg => rfl); (case hn => rfl); (case hr => first | (go_simp; done) | (go_simp; rfl)); intro w23 hw; have hg : w20.grownBy w23 (some go19) := (by rw [hw]; exact HP22.2); have hz_ : Kd.R (Kd.int .i64) 3 w23 w.heap.size oki22 (.slice (some ⟨go19, 0, none⟩) (rd_L3 x5_1 (ji14)).length c202_0) y205 := (by rw [hw, Ny205.out]; exact HP22.1); have hp_ : Kd.S (Kd.slice 3 (Kd.int .i64)) 31 w23 w.heap.size (fun _ => True) (.slice (some ad202) x5_1.length co21) y207 := (by rw [Ny207.out]; exact hbk22 hg (fun k_ e_ => by injection e_ with e_; subst e_; exact ge22_0.1 _ rfl) (Kd.M_row hz_)); have hm_ := Kd.R_mono hz_ hok22; clear HP22 hbk22; have n0_ := Aside0.mk (hp_); have n1_ := Aside0.mk (blk_grown (g := gb201) (o := .stringIter a0 (x202000_1 + 1 : Int).toNat) (by (with_reducible repeat (first | refine blk_drewN ?_ _ | refine blk_drew ?_ | refine blk_alloc ?_ _)); exact IT201.out) hg (Kd.R_nei HL204_0.out IT201.out)); have n2_ := Aside0.mk ((by rw [hw]; exact below_set (HB.out) GB19.out : Below w.heap.size w w23)); have n3_ := Aside0.mk (hm_); have n4_ := Aside0.mk ((Kd.R_reads' hm_).2.1); clear HO_5; clear IT201; clear HB; clear HL202_0; clear HL204_0; have HO_5 := n0_; have IT201 := n1_; have HB := n2_; have HL220 := n3_; have HC206 := n4_; clear n0_ n1_ n2_ n3_ n4_; clear hg hw hp_ hz_ hm_ hok22))); (try go_quiet (fail)))
              go_roundg k1
              case measure => have := HK1.out; omega
              case rel => exact ⟨(y207), (x202000_1 + 1), H', ⟨by have := HK1.out; omega⟩, ⟨by (with_reducible repeat (first | apply Kd.S_alloc | apply Kd.S_drewN | apply Kd.S_drew)); exact HO_5.out⟩, ⟨by (with_reducible repeat (first | refine blk_drewN ?_ _ | refine blk_drew ?_ | refine blk_alloc ?_ _)); exact IT201.out⟩, ⟨bw⟩⟩
             ·rw [if_neg c18] at H
              have c18b0 : ((rd (rd_L3 x5_1 (ji14)) 1) == (wrap64 (x202000_1 - 1))) = false := beq_eq_false_iff_ne.mpr c18
              have c18b1 : ((rd (rd_L3 x5_1 (ji14)) 1) != (wrap64 (x202000_1 - 1))) = true := bne_iff_ne.mpr c18
              obtain ⟨y208, hy208⟩ : ∃ y_ : List Int, y_ = (([x202000_1, x202000_1] : List Int)) := ⟨_, rfl⟩
              replace H : (if x5_1.length < 5864062014805 then (spec_odRuns.l0 k1 a0 a1 (x5_1 ++ [y208]) (x202000_1 + 1) a0) else (none)) = some r := by first | (rw [hy208]; with_reducible exact H) | (have H2_ := (Option.bind_some _ _).symm.trans H; rw [hy208]; with_reducible exact H2_) | (have H2_ := (Option.bind_some _ _).symm.trans H; with_reducible exact H2_) | with_reducible exact H | (rw [hy208]; exact H) | exact H
              have Ny208 := Aside0.mk hy208
              clear hy208
              by_cases c24 : x5_1.length < 5864062014805
              ·rw [if_pos c24] at H
               have LMc24 := Aside0.mk c24
               clear c24
               obtain ⟨y211, hy211⟩ : ∃ y_ : List (List Int), y_ = (x5_1 ++ [y208]) := ⟨_, rfl⟩
               replace H : (spec_odRuns.l0 k1 a0 a1 y211 (x202000_1 + 1) a0) = some r := by first | (rw [hy211]; with_reducible exact H) | (have H2_ := (Option.bind_some _ _).symm.trans H; rw [hy211]; with_reducible exact H2_) | (have H2_ := (Option.bind_some _ _).symm.trans H; with_reducible exact H2_) | with_reducible exact H | (rw [hy211]; exact H) | exact H
               have Ny211 := Aside0.mk hy211
               clear hy211
               have H' := Aside0.mk H
               clear H
               iterate 4 ((try go_wp2_with (first | ((with_reducible refine gate_dst (N := 10) rfl ?_); refine next_event ?hg (N := 10) ?hd (g := gb201) (s := a0) (p := x202000_1) ?hx ?hb ?h0 ?h1 ?h2 ?_; (case hd => rfl); (case hg => rfl); (case hx => exact ⟨_, rfl, by first | rfl | (go_simp; done) | (go_simp; rfl)⟩); (case hb => exact (by (with_reducible repeat (first | refine blk_drewN ?_ _ | refine blk_drew ?_ | refine blk_alloc ?_ _)); exact IT201.out)); (case h0 => first | (with_reducible decide) | exact of_decide_eq_true asm); (case h1 => exact of_decide_eq_true asm); (case h2 => exact of_decide_eq_true asm); intro w25 hbox hk; replace HO_5 := Aside0.mk (Kd.S_turned (by (with_reducible repeat (first | apply Kd.S_alloc | apply Kd.S_drewN | apply Kd.S_drew)); exact HO_5.out) (by (with_reducible repeat (first | refine blk_drewN ?_ _ | refine blk_drew ?_ | refine blk_alloc ?_ _)); exact IT201.out) hk); replace IT201 := Aside0.mk (hbox); replace HB := Aside0.mk (below_turned bw GE201.out hk); clear hbox hk; have p8 : 0 ≤ (x202000_1 : Int) := of_decide_eq_true asm; have q8 : x202000_1 < (a0.size : Int) := of_decide_eq_true asm; have hx8 := bt_at a0 x202000_1; replace p8 := eq_true p8; replace q8 := eq_true q8; have p10 : 0 ≤ (x202000_1 : Int) := of_decide_eq_true asm; have q10 : x202000_1 < (a1.size : Int) := of_decide_eq_true asm; have hx10 := bt_at a1 x202000_1; replace p10 := eq_true p10; replace q10 := eq_true q10; obtain ⟨Ao26, co26, eo26⟩ := Kd.S_slice HO_5.out; subst eo26; have p202 : 0 ≤ ((ji14) : Int) := of_decide_eq_true asm; have q202 : (ji14) < (x5_1.length : Int) := of_decide_eq_true asm; obtain ⟨ad202, A202_0, c202_0, e202, hx202_0, hl202_0, hi202_0⟩ := at_L3 (Kd.S_reads' HO_5.out).2.2 (ji14) p202 q202; cases e202; obtain ⟨ce202, hce202, hMe202, hcc202⟩ := Kd.S_get HO_5.out [] (ji14) p202 (by first | exact q202 | exact of_decide_eq_true asm | (have e_ := (Kd.S_reads' HO_5.out).1; omega)); obtain ⟨ve202_0, rfl, ge202_0⟩ := hMe202; have hv202_0 := hcc202 0 _ rfl; rw [Nat.add_zero, show ((Kd.slice 3 (Kd.int .i64))).sz = 1 from rfl, Nat.mul_one] at hv202_0; replace hv202_0 := Option.some.inj (hv202_0.symm.trans hx202_0); rw [hv202_0] at ge202_0; have HL202_0 := Aside0.mk (show Kd.R (Kd.int .i64) 3 _ _ _ _ (rd_L3 x5_1 (ji14)) from ge202_0); clear hv202_0 ge202_0; have HX202_0 := Aside0.mk hx202_0; clear hcc202 hce202; have HR202_0 := Aside0.mk hi202_0; have HC202_0 := Aside0.mk hl202_0; clear hi202_0 hl202_0; replace p202 := eq_true p202; replace q202 := eq_true q202; have p203 : 0 ≤ (1 : Int) := (by omega); have q203 : 1 < ((rd_L3 x5_1 (ji14)).length : Int) := of_decide_eq_true asm; obtain ⟨ad203, e203, hx203_0⟩ := Kd.at_int (by repeat (first | (with_reducible exact HR202_0.out) | (with_reducible refine Kd.C_alloc ?_ _) | (with_reducible refine Kd.C_drewN ?_ _) | (with_reducible refine Kd.C_drew ?_) | exact HR202_0.out)) 1 p203 q203; cases e203; (try simp only [show (1 : Int).toNat = 1 from rfl, Nat.reduceMul, Nat.reduceEqDiff, Go.Addr.add, ↓reduceIte] at hx203_0); have qi203 : (1 < (rd_L3 x5_1 (ji14)).length) = True := eq_true (by omega); (try rw [show ((1 : Int)).toNat = 1 from rfl] at hx203_0); replace p203 := eq_true p203; replace q203 := eq_true q203) | ((with_reducible refine gate_dst (N := 46) rfl ?_); refine Kd.R_lit (Kd.int .i64) _ 3 ?hg (N := 46) ?hd (xs := ([x202000_1, x202000_1] : List Int)) (inner := [.int .i64 x202000_1, .int .i64 x202000_1]) (ok := fun _ => True) (okp := fun _ => True) ?hr ?hp (fun _ hk => hk) trivial (Below.refl _ _) (Nat.le_refl _) (by simp) ?_; (case hd => rfl); (case hg => rfl); (case hr => first | (go_simp; done) | (go_simp; rfl)); (case hp => exact (Reps.one (show Kd.M (Kd.int .i64) _ _ _ x202000_1 [.int .i64 x202000_1] from rfl) (Reps.one (show Kd.M (Kd.int .i64) _ _ _ x202000_1 [.int .i64 x202000_1] from rfl) (Reps.none _ _)))); intro v209 w27 ho28 hb hg_ hnew_; clear hg_ hnew_; (first | rw [← Ny208.out] at ho28 | (simp only [Int.reduceToNat] at ho28; rw [← Ny208.out] at ho28)); replace HO_5 := Aside0.mk (Kd.S_elder' (by (with_reducible repeat (first | apply Kd.S_alloc | apply Kd.S_drewN | apply Kd.S_drew)); exact HO_5.out) (Kd.R_base ho28) hb); have HO210 := Aside0.mk (Kd.R_lower (Kd.R_new' ho28 (Kd.R_lt (by (with_reducible repeat (first | apply Kd.R_alloc | apply Kd.R_drewN | apply Kd.R_drew)); exact HL202_0.out))) (below_size bw)); replace HL202_0 := Aside0.mk (Kd.R_elder' (by (with_reducible repeat (first | apply Kd.R_alloc | apply Kd.R_drewN | apply Kd.R_drew)); exact HL202_0.out) (Kd.R_base ho28) hb); replace IT201 := Aside0.mk (blk_below (g := gb201) (o := .stringIter a0 (x202000_1 + 1 : Int).toNat) (by (with_reducible repeat (first | refine blk_drewN ?_ _ | refine blk_drew ?_ | refine blk_alloc ?_ _)); exact IT201.out) hb); replace HR202_0 := Aside0.mk (Kd.C_below (by repeat (first | (with_reducible exact HR202_0.out) | (with_reducible refine Kd.C_alloc ?_ _) | (with_reducible refine Kd.C_drewN ?_ _) | (with_reducible refine Kd.C_drew ?_) | exact HR202_0.out)) hb); replace HX202_0 := Aside0.mk (pw_cell_below hb HX202_0.out); replace HB := bs hb; clear hb ho28; obtain ⟨Ao30, co30, eo30⟩ := Kd.R_slice HO210.out; subst eo30) | ((with_reducible refine gate_builtin (b := .append) (xs := #[.tmp 43, .tmp 47]) rfl ?_); at_builtin; refine Kd.S_append (Kd.slice 3 (Kd.int .i64)) (w0 := w) w.heap.size rfl (.tmp 43) (.tmp 47) 26 31 (.slice none 0 0) 24 rfl Tryd.underlying26 info31 rfl (by decide) (by omega) (.slice (some ad202) x5_1.length co26) x5_1 y208 [.slice Ao30 y208.length co30] (fun _ => True) (fun k_ => some k_ = (.slice Ao30 y208.length co30 : Value).ownBlock) rfl rfl ?aP (fun k_ hk_ => ((Kd.R_mono (ok' := fun k_ => ((fun _ => True)) k_ ∧ some k_ ≠ (.slice (some ad202) x5_1.length co26 : Value).ownBlock) (Kd.R_apart' (HO210.out) (Kd.S_typed HO_5.out) (by decide)) (fun k_ hk => ⟨trivial, hk.2⟩))).1 k_ hk_.symm) ?aF ?aO ?aB ?aS ?aL ?_; (case aP => exact Kd.M_row (Kd.R_mono (Kd.R_tight rfl (Kd.R_mono (ok' := fun k_ => ((fun _ => True)) k_ ∧ some k_ ≠ (.slice (some ad202) x5_1.length co26 : Value).ownBlock) (Kd.R_apart' (HO210.out) (Kd.S_typed HO_5.out) (by decide)) (fun k_ hk => ⟨trivial, hk.2⟩))) (fun _ h_ => h_))); (case aB => exact bw); (case aF => exact (fun _ _ => trivial)); (case aO => exact (by (with_reducible repeat (first | apply Kd.S_alloc | apply Kd.S_drewN | apply Kd.S_drew)); exact Kd.S_mono HO_5.out (fun k_ hk => ⟨trivial, fun e_ => hk.2 e_⟩))); (case aS => exact (below_size bw)); (case aL => have := LMc24.out; omega); intro v212 w29 ho hb hg hat; rw [← Ny211.out] at ho; have n0_ := Aside0.mk (blk_grown (g := gb201) (o := .stringIter a0 (x202000_1 + 1 : Int).toNat) (by (with_reducible repeat (first | refine blk_drewN ?_ _ | refine blk_drew ?_ | refine blk_alloc ?_ _)); exact IT201.out) hg (Kd.S_nei HO_5.out IT201.out)); have n1_ := Aside0.mk (Kd.R_after (ok := (fun k_ => some k_ ≠ (.slice Ao30 y208.length co30 : Value).ownBlock)) (by (with_reducible repeat (first | apply Kd.R_alloc | apply Kd.R_drewN | apply Kd.R_drew)); exact Kd.R_mono HL202_0.out (fun _ hk => ⟨hk.2, hk.1.2⟩)) hg hat); have n2_ := Aside0.mk (hb); have n3_ := Aside0.mk (ho); clear IT201; clear HL202_0; clear HB; clear HO_5; clear HO210; have IT201 := n0_; have HL202_0 := n1_; have HB := n2_; have HO213 := n3_; clear n0_ n1_ n2_ n3_; clear ho hb hg hat))); (try go_quiet (fail)))
               go_roundg k1
               case measure => have := HK1.out; omega
               case rel => exact ⟨(y211), (x202000_1 + 1), H', ⟨by have := HK1.out; omega⟩, ⟨by (with_reducible repeat (first | apply Kd.S_alloc | apply Kd.S_drewN | apply Kd.S_drew)); exact HO213.out⟩, ⟨by (with_reducible repeat (first | refine blk_drewN ?_ _ | refine blk_drew ?_ | refine blk_alloc ?_ _)); exact IT201.out⟩, ⟨bw⟩⟩
              ·rw [if_neg c24] at H
               exact absurd H (by simp)
            ·rw [if_neg c17] at H
             exact absurd H (by simp)
           ·rw [if_neg c16] at H
            exact absurd H (by simp)
          ·rw [if_neg c15] at H
           exact absurd H (by simp)
         ·rw [if_neg c13] at H
          have c13b0 : decide (0 < (x5_1.length : Int)) = false := decide_eq_false c13
          have c13b1 : decide (0 < x5_1.length) = false := decide_eq_false (by omega)
          clear c13
          obtain ⟨y214, hy214⟩ : ∃ y_ : List Int, y_ = (([x202000_1, x202000_1] : List Int)) := ⟨_, rfl⟩
          replace H : (if x5_1.length < 5864062014805 then (spec_odRuns.l0 k1 a0 a1 (x5_1 ++ [y214]) (x202000_1 + 1) a0) else (none)) = some r := by first | (rw [hy214]; with_reducible exact H) | (have H2_ := (Option.bind_some _ _).symm.trans H; rw [hy214]; with_reducible exact H2_) | (have H2_ := (Option.bind_some _ _).symm.trans H; with_reducible exact H2_) | with_reducible exact H | (rw [hy214]; exact H) | exact H
          have Ny214 := Aside0.mk hy214
          clear hy214
          by_cases c31 : x5_1.length < 5864062014805
          ·rw [if_pos c31] at H
           have LMc31 := Aside0.mk c31
           clear c31
           obtain ⟨y217, hy217⟩ : ∃ y_ : List (List Int), y_ = (x5_1 ++ [y214]) := ⟨_, rfl⟩
           replace H : (spec_odRuns.l0 k1 a0 a1 y217 (x202000_1 + 1) a0) = some r := by first | (rw [hy217]; with_reducible exact H) | (have H2_ := (Option.bind_some _ _).symm.trans H; rw [hy217]; with_reducible exact H2_) | (have H2_ := (Option.bind_some _ _).symm.trans H; with_reducible exact H2_) | with_reducible exact H | (rw [hy217]; exact H) | exact H
           have Ny217 := Aside0.mk hy217
           clear hy217
           have H' := Aside0.mk H
           clear H
           iterate 4 ((try go_wp2_with (first | ((with_reducible refine gate_dst (N := 10) rfl ?_); refine next_event ?hg (N := 10) ?hd (g := gb201) (s := a0) (p := x202000_1) ?hx ?hb ?h0 ?h1 ?h2 ?_; (case hd => rfl); (case hg => rfl); (case hx => exact ⟨_, rfl, by first | rfl | (go_simp; done) | (go_simp; rfl)⟩); (case hb => exact (by (with_reducible repeat (first | refine blk_drewN ?_ _ | refine blk_drew ?_ | refine blk_alloc ?_ _)); exact IT201.out)); (case h0 => first | (with_reducible decide) | exact of_decide_eq_true asm); (case h1 => exact of_decide_eq_true asm); (case h2 => exact of_decide_eq_true asm); intro w32 hbox hk; replace HO_5 := Aside0.mk (Kd.S_turned (by (with_reducible repeat (first | apply Kd.S_alloc | apply Kd.S_drewN | apply Kd.S_drew)); exact HO_5.out) (by (with_reducible repeat (first | refine blk_drewN ?_ _ | refine blk_drew ?_ | refine blk_alloc ?_ _)); exact IT201.out) hk); replace IT201 := Aside0.mk (hbox); replace HB := Aside0.mk (below_turned bw GE201.out hk); clear hbox hk; have p8 : 0 ≤ (x202000_1 : Int) := of_decide_eq_true asm; have q8 : x202000_1 < (a0.size : Int) := of_decide_eq_true asm; have hx8 := bt_at a0 x202000_1; replace p8 := eq_true p8; replace q8 := eq_true q8; have p10 : 0 ≤ (x202000_1 : Int) := of_decide_eq_true asm; have q10 : x202000_1 < (a1.size : Int) := of_decide_eq_true asm; have hx10 := bt_at a1 x202000_1; replace p10 := eq_true p10; replace q10 := eq_true q10; obtain ⟨Ao33, co33, eo33⟩ := Kd.S_slice HO_5.out; subst eo33) | ((with_reducible refine gate_dst (N := 46) rfl ?_); refine Kd.R_lit (Kd.int .i64) _ 3 ?hg (N := 46) ?hd (xs := ([x202000_1, x202000_1] : List Int)) (inner := [.int .i64 x202000_1, .int .i64 x202000_1]) (ok := fun _ => True) (okp := fun _ => True) ?hr ?hp (fun _ hk => hk) trivial (Below.refl _ _) (Nat.le_refl _) (by simp) ?_; (case hd => rfl); (case hg => rfl); (case hr => first | (go_simp; done) | (go_simp; rfl)); (case hp => exact (Reps.one (show Kd.M (Kd.int .i64) _ _ _ x202000_1 [.int .i64 x202000_1] from rfl) (Reps.one (show Kd.M (Kd.int .i64) _ _ _ x202000_1 [.int .i64 x202000_1] from rfl) (Reps.none _ _)))); intro v215 w34 ho35 hb hg_ hnew_; clear hg_ hnew_; (first | rw [← Ny214.out] at ho35 | (simp only [Int.reduceToNat] at ho35; rw [← Ny214.out] at ho35)); replace HO_5 := Aside0.mk (Kd.S_elder' (by (with_reducible repeat (first | apply Kd.S_alloc | apply Kd.S_drewN | apply Kd.S_drew)); exact HO_5.out) (Kd.R_base ho35) hb); have HO216 := Aside0.mk (Kd.R_lower ho35 (below_size bw)); replace IT201 := Aside0.mk (blk_below (g := gb201) (o := .stringIter a0 (x202000_1 + 1 : Int).toNat) (by (with_reducible repeat (first | refine blk_drewN ?_ _ | refine blk_drew ?_ | refine blk_alloc ?_ _)); exact IT201.out) hb); replace HB := bs hb; clear hb ho35; obtain ⟨Ao37, co37, eo37⟩ := Kd.R_slice HO216.out; subst eo37) | ((with_reducible refine gate_builtin (b := .append) (xs := #[.tmp 43, .tmp 47]) rfl ?_); at_builtin; refine Kd.S_append (Kd.slice 3 (Kd.int .i64)) (w0 := w) w.heap.size rfl (.tmp 43) (.tmp 47) 26 31 (.slice none 0 0) 24 rfl Tryd.underlying26 info31 rfl (by decide) (by omega) (.slice Ao33 x5_1.length co33) x5_1 y214 [.slice Ao37 y214.length co37] (fun _ => True) (fun k_ => some k_ = (.slice Ao37 y214.length co37 : Value).ownBlock) rfl rfl ?aP (fun k_ hk_ => ((Kd.R_mono (ok' := fun k_ => ((fun _ => True)) k_ ∧ some k_ ≠ (.slice Ao33 x5_1.length co33 : Value).ownBlock) (Kd.R_apart' (HO216.out) (Kd.S_typed HO_5.out) (by decide)) (fun k_ hk => ⟨trivial, hk.2⟩))).1 k_ hk_.symm) ?aF ?aO ?aB ?aS ?aL ?_; (case aP => exact Kd.M_row (Kd.R_mono (Kd.R_tight rfl (Kd.R_mono (ok' := fun k_ => ((fun _ => True)) k_ ∧ some k_ ≠ (.slice Ao33 x5_1.length co33 : Value).ownBlock) (Kd.R_apart' (HO216.out) (Kd.S_typed HO_5.out) (by decide)) (fun k_ hk => ⟨trivial, hk.2⟩))) (fun _ h_ => h_))); (case aB => exact bw); (case aF => exact (fun _ _ => trivial)); (case aO => exact (by (with_reducible repeat (first | apply Kd.S_alloc | apply Kd.S_drewN | apply Kd.S_drew)); exact Kd.S_mono HO_5.out (fun k_ hk => ⟨trivial, fun e_ => hk.2 e_⟩))); (case aS => exact (below_size bw)); (case aL => have := LMc31.out; omega); intro v218 w36 ho hb hg hat; rw [← Ny217.out] at ho; have n0_ := Aside0.mk (blk_grown (g := gb201) (o := .stringIter a0 (x202000_1 + 1 : Int).toNat) (by (with_reducible repeat (first | refine blk_drewN ?_ _ | refine blk_drew ?_ | refine blk_alloc ?_ _)); exact IT201.out) hg (Kd.S_nei HO_5.out IT201.out)); have n1_ := Aside0.mk (hb); have n2_ := Aside0.mk (ho); clear IT201; clear HB; clear HO_5; clear HO216; have IT201 := n0_; have HB := n1_; have HO219 := n2_; clear n0_ n1_ n2_; clear ho hb hg hat))); (try go_quiet (fail)))
           go_roundg k1
           case measure => have := HK1.out; omega
           case rel => exact ⟨(y217), (x202000_1 + 1), H', ⟨by have := HK1.out; omega⟩, ⟨by (with_reducible repeat (first | apply Kd.S_alloc | apply Kd.S_drewN | apply Kd.S_drew)); exact HO219.out⟩, ⟨by (with_reducible repeat (first | refine blk_drewN ?_ _ | refine blk_drew ?_ | refine blk_alloc ?_ _)); exact IT201.out⟩, ⟨bw⟩⟩
          ·rw [if_neg c31] at H
           exact absurd H (by simp)
       ·rw [if_neg c9] at H
        exact absurd H (by simp)
      ·rw [if_neg c7] at H
       exact absurd H (by simp)
     ·rw [if_neg c6] at H
      exact absurd H (by simp)
    ·rw [if_neg c5] at H
     exact absurd H (by simp)
   ·rw [if_neg c4] at H
    have c4b0 : decide (x202000_1 < (a0.size : Int)) = false := decide_eq_false c4
    clear c4
    obtain rfl := Option.some.inj H
    iterate 4 ((try go_wp2_with (first | ((with_reducible refine gate_dst (N := 10) rfl ?_); refine next_end_event ?hg (N := 10) ?hd (g := gb201) (s := a0) (p := x202000_1) ?hx ?hb ?h1 ?_; (case hd => rfl); (case hg => rfl); (case hx => exact ⟨_, rfl, by first | rfl | (go_simp; done) | (go_simp; rfl)⟩); (case hb => exact (by (with_reducible repeat (first | refine blk_drewN ?_ _ | refine blk_drew ?_ | refine blk_alloc ?_ _)); exact IT201.out)); (case h1 => exact of_decide_eq_false asm)))); (try go_quiet (fail)))
    go_ret
    exact ⟨_, rs, by (with_reducible repeat (first | apply Kd.S_alloc | apply Kd.S_drewN | apply Kd.S_drew)); exact HO_5.out, bw⟩

/-! ### spec_RunsTo: function 7 -/
def spec_RunsTo.f (k : Nat) (a0 : ByteArray) (a1 : ByteArray) : Option ((List (List Int)) × Bool) := (spec_odTwo.f k a0 a1).bind fun t221 => (if t221 = true then ((spec_odRuns.f k a0 a1).bind fun t222 => (some (t222, true))) else (some (([] : List (List Int)), false)))
theorem spec_RunsTo.mono : ∀ a0 a1 k, LeO (spec_RunsTo.f k a0 a1) (spec_RunsTo.f (k + 1) a0 a1) := by
  intro a0 a1 k
  unfold spec_RunsTo.f
  repeat' first
      | (with_reducible exact spec_odRuns.mono _ _ _)
      | (with_reducible exact spec_odTwo.mono _ _ _)
      | (with_reducible exact LeO.refl _)
      | (with_reducible exact LeO.none _)
      | (with_reducible refine LeO.ite ?_ ?_)
      | (with_reducible refine LeO.bind ?_ (fun _ => ?_))
      | exact spec_odRuns.mono _ _ _
      | exact spec_odTwo.mono _ _ _
      | exact LeO.none _
      | refine LeO.ite ?_ ?_
      | refine LeO.bind ?_ (fun _ => ?_)
set_option maxHeartbeats 8000000 in
set_option maxRecDepth 100000 in
theorem spec_RunsTo.calls (k : Nat) (a0 : ByteArray) (a1 : ByteArray) (r1 : List (List Int)) (r2 : Bool) (w : World) (h : spec_RunsTo.f k a0 a1 = some (r1, r2)) :
  Calls Tryd.prog 7 #[.string a0, .string a1] w fun e w' => ∃ v0_ : Value, e = .returned (.tuple #[v0_, .bool r2]) ∧ Kd.S (Kd.slice 3 (Kd.int .i64)) 31 w' w.heap.size (fun _ => True) v0_ r1 ∧ Below w.heap.size w w' := by
 have HB := Aside0.mk (Below.refl w.heap.size w)
 unfold spec_RunsTo.f at h
 have H := h
 clear h
 replace H := Option.bind_eq_some_iff.mp H
 obtain ⟨t221, A30, H⟩ := H
 (try dsimp only at H)
 have A3 := Aside0.mk A30
 clear A30
 by_cases c4 : t221 = true
 ·subst c4
  rw [if_pos rfl] at H
  replace H := Option.bind_eq_some_iff.mp H
  obtain ⟨t222, A50, H⟩ := H
  (try dsimp only at H)
  have A5 := Aside0.mk A50
  clear A50
  simp only [Option.some.injEq, Prod.mk.injEq] at H
  obtain ⟨rfl, rfl⟩ := H
  go_enter Tryd.func7, Tryd.ntmps7
  go_wp2_with (first | ((with_reducible refine gate_callee (f := 35) rfl ?_); refine gl (some 8) Tryd.func35 #[.string a0, .string a1] ?_; (with_reducible refine (spec_odTwo.calls k a0 a1 true _ A3.out).mono ?_); rintro e w' ⟨rfl, ⟨nd, rfl⟩⟩; refine ⟨_, rfl, ?_⟩) | ((with_reducible refine gate_callee (f := 36) rfl ?_); refine gl (some 12) Tryd.func36 #[.string a0, .string a1] ?_; (with_reducible refine (spec_odRuns.calls k a0 a1 t222 _ A5.out).mono ?_); rintro e w6 ⟨v223, rfl, ho0, hb⟩; refine ⟨_, rfl, ?_⟩; have HO224 := Aside0.mk (Kd.S_lower ho0 (below_size bw)); replace HB := bs hb; (try clear hb); (try clear ho0)))
  go_ret2
  exact ⟨_, rs, by (with_reducible repeat (first | apply Kd.S_alloc | apply Kd.S_drewN | apply Kd.S_drew)); exact HO224.out, bw⟩
 ·replace c4 := Bool.eq_false_iff.mpr c4
  subst c4
  rw [if_neg (show ¬ (false = true) by decide)] at H
  simp only [Option.some.injEq, Prod.mk.injEq] at H
  obtain ⟨rfl, rfl⟩ := H
  go_enter Tryd.func7, Tryd.ntmps7
  go_wp2_with (first | ((with_reducible refine gate_callee (f := 35) rfl ?_); refine gl (some 8) Tryd.func35 #[.string a0, .string a1] ?_; (with_reducible refine (spec_odTwo.calls k a0 a1 false _ A3.out).mono ?_); rintro e w' ⟨rfl, ⟨nd, rfl⟩⟩; refine ⟨_, rfl, ?_⟩))
  go_ret2
  exact ⟨_, rs, by first | exact Kd.S_nil _ _ _ _ _ | exact Kd.N_nil _ _ _ _ _ | exact Kd.V_nil _ _ _ _ _ | exact Kd.Q_nil _ _ _ _ _ | exact Kd.R_nil _ _ _ _ _, bw⟩

/-! ### impl_FewestRuns: function 8 -/
def impl_FewestRuns.f (k : Nat) (a0 : ByteArray) (a1 : ByteArray) : Option (Int × Bool) := (impl_RunsTo.f k a0 a1).bind fun bt225 => (some ((bt225.1.length : Int), bt225.2))
theorem impl_FewestRuns.mono : ∀ a0 a1 k, LeO (impl_FewestRuns.f k a0 a1) (impl_FewestRuns.f (k + 1) a0 a1) := by
  intro a0 a1 k
  unfold impl_FewestRuns.f
  repeat' first
      | (with_reducible exact impl_RunsTo.mono _ _ _)
      | (with_reducible exact LeO.refl _)
      | (with_reducible exact LeO.none _)
      | (with_reducible refine LeO.ite ?_ ?_)
      | (with_reducible refine LeO.bind ?_ (fun _ => ?_))
      | exact impl_RunsTo.mono _ _ _
      | exact LeO.none _
      | refine LeO.ite ?_ ?_
      | refine LeO.bind ?_ (fun _ => ?_)
set_option maxHeartbeats 8000000 in
set_option maxRecDepth 100000 in
theorem impl_FewestRuns.calls (k : Nat) (a0 : ByteArray) (a1 : ByteArray) (r1 : Int) (r2 : Bool) (w : World) (h : impl_FewestRuns.f k a0 a1 = some (r1, r2)) :
  Calls Tryd.prog 8 #[.string a0, .string a1] w fun e w' => e = .returned (.tuple #[.int .i64 r1, .bool r2]) ∧ Below w.heap.size w w' := by
 have HB := Aside0.mk (Below.refl w.heap.size w)
 unfold impl_FewestRuns.f at h
 have H := h
 clear h
 replace H := Option.bind_eq_some_iff.mp H
 obtain ⟨⟨t225, t226⟩, A30, H⟩ := H
 (try dsimp only at H)
 have A3 := Aside0.mk A30
 clear A30
 simp only [Option.some.injEq, Prod.mk.injEq] at H
 obtain ⟨rfl, rfl⟩ := H
 go_enter Tryd.func8, Tryd.ntmps8
 go_wp2_with (first | ((with_reducible refine gate_callee (f := 6) rfl ?_); refine gl (some 11) Tryd.func6 #[.string a0, .string a1] ?_; (with_reducible refine (impl_RunsTo.calls k a0 a1 t225 t226 _ A3.out).mono ?_); rintro e w4 ⟨v227, rfl, ho0, hb⟩; refine ⟨_, rfl, ?_⟩; have HO228 := Aside0.mk (Kd.S_lower ho0 (below_size bw)); replace HB := bs hb; (try clear hb); (try clear ho0); obtain ⟨Ao5, co5, eo5⟩ := Kd.S_slice HO228.out; subst eo5))
 go_ret2
 exact ⟨rs, bw⟩

/-! ### spec_FewestRuns: function 9 -/
def spec_FewestRuns.f (k : Nat) (a0 : ByteArray) (a1 : ByteArray) : Option (Int × Bool) := (spec_odTwo.f k a0 a1).bind fun t229 => (if t229 = true then ((spec_odRuns.f k a0 a1).bind fun t230 => (some ((t230.length : Int), true))) else (some (0, false)))
theorem spec_FewestRuns.mono : ∀ a0 a1 k, LeO (spec_FewestRuns.f k a0 a1) (spec_FewestRuns.f (k + 1) a0 a1) := by
  intro a0 a1 k
  unfold spec_FewestRuns.f
  repeat' first
      | (with_reducible exact spec_odRuns.mono _ _ _)
      | (with_reducible exact spec_odTwo.mono _ _ _)
      | (with_reducible exact LeO.refl _)
      | (with_reducible exact LeO.none _)
      | (with_reducible refine LeO.ite ?_ ?_)
      | (with_reducible refine LeO.bind ?_ (fun _ => ?_))
      | exact spec_odRuns.mono _ _ _
      | exact spec_odTwo.mono _ _ _
      | exact LeO.none _
      | refine LeO.ite ?_ ?_
      | refine LeO.bind ?_ (fun _ => ?_)
set_option maxHeartbeats 8000000 in
set_option maxRecDepth 100000 in
theorem spec_FewestRuns.calls (k : Nat) (a0 : ByteArray) (a1 : ByteArray) (r1 : Int) (r2 : Bool) (w : World) (h : spec_FewestRuns.f k a0 a1 = some (r1, r2)) :
  Calls Tryd.prog 9 #[.string a0, .string a1] w fun e w' => e = .returned (.tuple #[.int .i64 r1, .bool r2]) ∧ Below w.heap.size w w' := by
 have HB := Aside0.mk (Below.refl w.heap.size w)
 unfold spec_FewestRuns.f at h
 have H := h
 clear h
 replace H := Option.bind_eq_some_iff.mp H
 obtain ⟨t229, A30, H⟩ := H
 (try dsimp only at H)
 have A3 := Aside0.mk A30
 clear A30
 by_cases c4 : t229 = true
 ·subst c4
  rw [if_pos rfl] at H
  replace H := Option.bind_eq_some_iff.mp H
  obtain ⟨t230, A50, H⟩ := H
  (try dsimp only at H)
  have A5 := Aside0.mk A50
  clear A50
  simp only [Option.some.injEq, Prod.mk.injEq] at H
  obtain ⟨rfl, rfl⟩ := H
  go_enter Tryd.func9, Tryd.ntmps9
  go_wp2_with (first | ((with_reducible refine gate_callee (f := 35) rfl ?_); refine gl (some 8) Tryd.func35 #[.string a0, .string a1] ?_; (with_reducible refine (spec_odTwo.calls k a0 a1 true _ A3.out).mono ?_); rintro e w' ⟨rfl, ⟨nd, rfl⟩⟩; refine ⟨_, rfl, ?_⟩) | ((with_reducible refine gate_callee (f := 36) rfl ?_); refine gl (some 12) Tryd.func36 #[.string a0, .string a1] ?_; (with_reducible refine (spec_odRuns.calls k a0 a1 t230 _ A5.out).mono ?_); rintro e w6 ⟨v231, rfl, ho0, hb⟩; refine ⟨_, rfl, ?_⟩; have HO232 := Aside0.mk (Kd.S_lower ho0 (below_size bw)); replace HB := bs hb; (try clear hb); (try clear ho0); obtain ⟨Ao7, co7, eo7⟩ := Kd.S_slice HO232.out; subst eo7))
  go_ret2
  exact ⟨rs, bw⟩
 ·replace c4 := Bool.eq_false_iff.mpr c4
  subst c4
  rw [if_neg (show ¬ (false = true) by decide)] at H
  simp only [Option.some.injEq, Prod.mk.injEq] at H
  obtain ⟨rfl, rfl⟩ := H
  go_enter Tryd.func9, Tryd.ntmps9
  go_wp2_with (first | ((with_reducible refine gate_callee (f := 35) rfl ?_); refine gl (some 8) Tryd.func35 #[.string a0, .string a1] ?_; (with_reducible refine (spec_odTwo.calls k a0 a1 false _ A3.out).mono ?_); rintro e w' ⟨rfl, ⟨nd, rfl⟩⟩; refine ⟨_, rfl, ?_⟩))
  go_ret2
  exact ⟨rs, bw⟩

/-! ### impl_FirstsTo: function 10 -/
def impl_FirstsTo.l0 : Nat → List Int → List Bool → Int → Int → Option (List Int × Bool)
  | 0, _, _, _, _ => none
  | k + 1, x6, x7, x20, x21 => if x21 < x20 then (if 0 ≤ x21 then (if x21 < (x7.length : Int) then (if 0 ≤ (wrap64 (x21 + 1)) then (if (wrap64 (x21 + 1)) < (x7.length : Int) then (if ((rdOf false x7 x21) != (rdOf false x7 (wrap64 (x21 + 1)))) = true then (if x6.length < 17592186044416 then (impl_FirstsTo.l0 k (x6 ++ [wrap64 (x21 + 1)]) x7 x20 (wrap64 (x21 + 1))) else (none)) else (impl_FirstsTo.l0 k x6 x7 x20 (wrap64 (x21 + 1)))) else (none)) else (none)) else (none)) else (none)) else (some (x6, true))
def impl_FirstsTo.f (k : Nat) (a0 : ByteArray) (a1 : ByteArray) : Option (List Int × Bool) := (impl_areOrdered.f a0 a1).bind fun t233 => (if t233 = true then ((impl_differ.f k a0 a1).bind fun t237 => (if t237.length < 140737488355328 then (impl_FirstsTo.l0 k (([] : List Int)) (t237 ++ [false]) (a0.size : Int) 0) else (none))) else (some (([] : List Int), false)))
theorem impl_FirstsTo.mono_l : ∀ k, (∀ y0 y1 y2 y3, LeO (impl_FirstsTo.l0 k y0 y1 y2 y3) (impl_FirstsTo.l0 (k + 1) y0 y1 y2 y3))
  | 0 => fun _ _ _ _ r h => by simp [impl_FirstsTo.l0] at h
  | k + 1 => by
    have ih0 := impl_FirstsTo.mono_l k
    · intro y0 y1 y2 y3
      unfold impl_FirstsTo.l0
      repeat' first
      | (with_reducible exact ih0 _ _ _ _)
      | (with_reducible exact impl_differ.mono _ _ _)
      | (with_reducible exact LeO.refl _)
      | (with_reducible exact LeO.none _)
      | (with_reducible refine LeO.ite ?_ ?_)
      | (with_reducible refine LeO.bind ?_ (fun _ => ?_))
      | exact ih0 _ _ _ _
      | exact impl_differ.mono _ _ _
      | exact LeO.none _
      | refine LeO.ite ?_ ?_
      | refine LeO.bind ?_ (fun _ => ?_)
theorem impl_FirstsTo.mono : ∀ a0 a1 k, LeO (impl_FirstsTo.f k a0 a1) (impl_FirstsTo.f (k + 1) a0 a1) := by
  intro a0 a1 k
  have ih0 := impl_FirstsTo.mono_l k
  unfold impl_FirstsTo.f
  repeat' first
      | (with_reducible exact ih0 _ _ _ _)
      | (with_reducible exact impl_differ.mono _ _ _)
      | (with_reducible exact LeO.refl _)
      | (with_reducible exact LeO.none _)
      | (with_reducible refine LeO.ite ?_ ?_)
      | (with_reducible refine LeO.bind ?_ (fun _ => ?_))
      | exact ih0 _ _ _ _
      | exact impl_differ.mono _ _ _
      | exact LeO.none _
      | refine LeO.ite ?_ ?_
      | refine LeO.bind ?_ (fun _ => ?_)
set_option maxHeartbeats 8000000 in
set_option maxRecDepth 100000 in
theorem impl_FirstsTo.calls (k : Nat) (a0 : ByteArray) (a1 : ByteArray) (r1 : List Int) (r2 : Bool) (w : World) (h : impl_FirstsTo.f k a0 a1 = some (r1, r2)) :
  Calls Tryd.prog 10 #[.string a0, .string a1] w fun e w' => ∃ v0_ : Value, e = .returned (.tuple #[v0_, .bool r2]) ∧ Kd.R (Kd.int .i64) 3 w' w.heap.size (fun _ => True) v0_ r1 ∧ Below w.heap.size w w' := by
 have HB := Aside0.mk (Below.refl w.heap.size w)
 unfold impl_FirstsTo.f at h
 have H := h
 clear h
 replace H := Option.bind_eq_some_iff.mp H
 obtain ⟨t233, A30, H⟩ := H
 (try dsimp only at H)
 have A3 := Aside0.mk A30
 clear A30
 by_cases c4 : t233 = true
 ·subst c4
  rw [if_pos rfl] at H
  obtain ⟨y234, hy234⟩ : ∃ y_ : List Int, y_ = (([] : List Int)) := ⟨_, rfl⟩
  replace H : ((impl_differ.f k a0 a1).bind fun t237 => (if t237.length < 140737488355328 then (impl_FirstsTo.l0 k y234 (t237 ++ [false]) (a0.size : Int) 0) else (none))) = some (r1, r2) := by first | (rw [hy234]; with_reducible exact H) | (have H2_ := (Option.bind_some _ _).symm.trans H; rw [hy234]; with_reducible exact H2_) | (have H2_ := (Option.bind_some _ _).symm.trans H; with_reducible exact H2_) | with_reducible exact H | (rw [hy234]; exact H) | exact H
  have Ny234 := Aside0.mk hy234
  clear hy234
  replace H := Option.bind_eq_some_iff.mp H
  obtain ⟨t237, A50, H⟩ := H
  (try dsimp only at H)
  have A5 := Aside0.mk A50
  clear A50
  by_cases c6 : t237.length < 140737488355328
  ·rw [if_pos c6] at H
   have LMc6 := Aside0.mk c6
   clear c6
   obtain ⟨y240, hy240⟩ : ∃ y_ : List Bool, y_ = (t237 ++ [false]) := ⟨_, rfl⟩
   replace H : (impl_FirstsTo.l0 k y234 y240 (a0.size : Int) 0) = some (r1, r2) := by first | (rw [hy240]; with_reducible exact H) | (have H2_ := (Option.bind_some _ _).symm.trans H; rw [hy240]; with_reducible exact H2_) | (have H2_ := (Option.bind_some _ _).symm.trans H; with_reducible exact H2_) | with_reducible exact H | (rw [hy240]; exact H) | exact H
   have Ny240 := Aside0.mk hy240
   clear hy240
   have H' := Aside0.mk H
   clear H
   go_enter Tryd.func10, Tryd.ntmps10
   iterate 4 ((try go_wp2_with (first | (go_at_call 32; (with_reducible refine (impl_areOrdered.calls a0 a1 true _ A3.out).mono ?_); rintro e w7 ⟨rfl, hb⟩; replace HB := bs hb; (try clear hb)) | ((with_reducible refine gate_dst (N := 13) rfl ?_); refine Kd.R_lit (Kd.int .i64) _ 3 ?hg (N := 13) ?hd (xs := ([] : List Int)) (inner := []) (ok := fun _ => True) (okp := fun _ => True) ?hr ?hp (fun _ hk => hk) trivial (Below.refl _ _) (Nat.le_refl _) (by simp) ?_; (case hd => rfl); (case hg => rfl); (case hr => first | (go_simp; done) | (go_simp; rfl)); (case hp => exact (Reps.none _ _)); intro v235 w8 ho9 hb hg_ hnew_; clear hg_ hnew_; (first | rw [← Ny234.out] at ho9 | (simp only [Int.reduceToNat] at ho9; rw [← Ny234.out] at ho9)); have HO236 := Aside0.mk (Kd.R_lower ho9 (below_size bw)); replace HB := bs hb; clear hb ho9) | (go_at_call 34; (with_reducible refine (impl_differ.calls k a0 a1 t237 _ A5.out).mono ?_); rintro e w10 ⟨v238, rfl, ho0, hb⟩; replace HO236 := rl HO236 hb; have HO239 := Aside0.mk (Kd.R_lower ho0 (below_size bw)); replace HB := bs hb; (try clear hb); (try clear ho0)) | ((with_reducible refine gate_builtin (b := .append) (xs := #[.tmp 16, .tmp 17]) rfl ?_); at_builtin; refine Kd.R_append Kd.bool (w0 := w) w.heap.size rfl (.tmp 16) (.tmp 17) 51 4 (.bool false) 1 rfl Tryd.underlying51 info4 rfl (by decide) (by omega) v238 t237 false [.bool false] (fun _ => True) (fun _ => False) rfl rfl ?aP (fun _ hk => hk.elim) ?aF ?aO ?aB ?aS ?aL ?_; (case aP => exact rfl); (case aB => exact bw); (case aF => exact (fun _ _ => trivial)); (case aO => exact (pr HO239)); (case aS => exact (below_size bw)); (case aL => have := LMc6.out; omega); intro v241 w11 ho hb hg hat; rw [← Ny240.out] at ho; have n0_ := Aside0.mk (Kd.R_over' (pr HO236) (Kd.R_typed (pr HO239)) (by decide) hg); have n1_ := Aside0.mk (hb); have n2_ := Aside0.mk (ho); clear HO236; clear HB; clear HO239; have HO236 := n0_; have HB := n1_; have HO242 := n2_; clear n0_ n1_ n2_; clear ho hb hg hat))); (try go_quiet (fail)))
   go_loopg [6, 21] k (fun kq v6 v21 w' => ∃ (x6_1 : List Int) (x21_1 : Int), v21 = .int .i64 x21_1 ∧ Aside0 (impl_FirstsTo.l0 kq x6_1 y240 (a0.size : Int) x21_1 = some (r1, r2)) ∧ Aside0 (kq ≤ k) ∧ Aside0 (Kd.R (Kd.int .i64) 3 w' w.heap.size (fun _ => True) v6 x6_1) ∧ Aside0 (Kd.R Kd.bool 4 w' w.heap.size (fun _ => True) v241 y240) ∧ Aside0 (Below w.heap.size w w'))
   case atStart => exact ⟨(y234), (0), (rs), H', ⟨Nat.le_refl _⟩, ⟨pr HO236⟩, ⟨pr HO242⟩, ⟨bw⟩⟩
   case round =>
    clear H'
    try clear c1
    try clear p2
    try clear c4
    try clear c6
    try clear c10
    obtain ⟨x6_1, x21_1, rfl, HA, HK1, HO_6, HO_7, HB⟩ := hrel
    cases gk with
    | zero => exact absurd HA.out (by simp [impl_FirstsTo.l0])
    | succ k1 =>
     have H := HA.out
     clear HA
     simp only [impl_FirstsTo.l0] at H
     by_cases c12 : x21_1 < (a0.size : Int)
     ·rw [if_pos c12] at H
      have c12b0 : decide (x21_1 < (a0.size : Int)) = true := decide_eq_true c12
      clear c12
      by_cases c13 : 0 ≤ x21_1
      ·rw [if_pos c13] at H
       have c13b0 : decide (0 ≤ x21_1) = true := decide_eq_true c13
       clear c13
       by_cases c14 : x21_1 < (y240.length : Int)
       ·rw [if_pos c14] at H
        have c14b0 : decide (x21_1 < (y240.length : Int)) = true := decide_eq_true c14
        clear c14
        obtain ⟨ji15, hji15⟩ : ∃ j_ : Int, (wrap64 (x21_1 + 1)) = j_ := ⟨_, rfl⟩
        replace H : (if 0 ≤ (ji15) then (if (ji15) < (y240.length : Int) then (if ((rdOf false y240 x21_1) != (rdOf false y240 (ji15))) = true then (if x6_1.length < 17592186044416 then (impl_FirstsTo.l0 k1 (x6_1 ++ [ji15]) y240 (a0.size : Int) ji15) else (none)) else (impl_FirstsTo.l0 k1 x6_1 y240 (a0.size : Int) ji15)) else (none)) else (none)) = some (r1, r2) := by first | (rw [hji15] at H; exact H) | (simp only [hji15] at H ⊢; exact H)
        have hji15w : (IntKind.i64.wrap (x21_1 + 1)) = ji15 := (i64_w _).trans hji15
        by_cases c16 : 0 ≤ (ji15)
        ·rw [if_pos c16] at H
         have c16b0 : decide (0 ≤ (ji15)) = true := decide_eq_true c16
         clear c16
         by_cases c17 : (ji15) < (y240.length : Int)
         ·rw [if_pos c17] at H
          have c17b0 : decide ((ji15) < (y240.length : Int)) = true := decide_eq_true c17
          clear c17
          by_cases c18 : ((rdOf false y240 x21_1) != (rdOf false y240 (ji15))) = true
          ·rw [if_pos c18] at H
           have c18b0 : ((rdOf false y240 x21_1) != (rdOf false y240 (ji15))) = true := c18
           (try (have c18b1 : decide ((rdOf false y240 x21_1) = (rdOf false y240 (ji15))) = false := by simpa using c18))
           (try (have c18b2 : ((rdOf false y240 x21_1) == (rdOf false y240 (ji15))) = false := by simpa using c18))
           (try (have c18b3 : ¬ ((rdOf false y240 x21_1) = (rdOf false y240 (ji15))) := by simpa using c18))
           clear c18
           by_cases c19 : x6_1.length < 17592186044416
           ·rw [if_pos c19] at H
            have LMc19 := Aside0.mk c19
            clear c19
            obtain ⟨y245, hy245⟩ : ∃ y_ : List Int, y_ = (x6_1 ++ [ji15]) := ⟨_, rfl⟩
            replace H : (impl_FirstsTo.l0 k1 y245 y240 (a0.size : Int) ji15) = some (r1, r2) := by first | (rw [hy245]; with_reducible exact H) | (have H2_ := (Option.bind_some _ _).symm.trans H; rw [hy245]; with_reducible exact H2_) | (have H2_ := (Option.bind_some _ _).symm.trans H; with_reducible exact H2_) | with_reducible exact H | (rw [hy245]; exact H) | exact H
            have Ny245 := Aside0.mk hy245
            clear hy245
            have H' := Aside0.mk H
            clear H
            obtain ⟨Ao20, co20, eo20⟩ := Kd.R_slice HO_7.out
            subst eo20
            have p243 : 0 ≤ (x21_1 : Int) := of_decide_eq_true asm
            have q243 : x21_1 < (y240.length : Int) := of_decide_eq_true asm
            obtain ⟨ad243, e243, hx243_0⟩ := Kd.at_bool (Kd.R_reads' HO_7.out).2.2 x21_1 p243 q243
            cases e243
            replace p243 := eq_true p243
            replace q243 := eq_true q243
            have p244 : 0 ≤ ((ji15) : Int) := of_decide_eq_true asm
            have q244 : (ji15) < (y240.length : Int) := of_decide_eq_true asm
            obtain ⟨ad244, e244, hx244_0⟩ := Kd.at_bool (Kd.R_reads' HO_7.out).2.2 (ji15) p244 q244
            obtain rfl : ad243 = ad244 := (by injection e244)
            replace p244 := eq_true p244
            replace q244 := eq_true q244
            iterate 4 ((try go_wp2_with (first | ((with_reducible refine gate_builtin (b := .append) (xs := #[.tmp 34, .tmp 37]) rfl ?_); at_builtin; refine Kd.R_append (Kd.int .i64) (w0 := w) w.heap.size rfl (.tmp 34) (.tmp 37) 31 3 (.int .i64 0) 8 rfl Tryd.underlying31 info3 rfl (by decide) (by omega) u6 x6_1 ji15 [.int .i64 ji15] (fun _ => True) (fun _ => False) rfl rfl ?aP (fun _ hk => hk.elim) ?aF ?aO ?aB ?aS ?aL ?_; (case aP => exact rfl); (case aB => exact bw); (case aF => exact (fun _ _ => trivial)); (case aO => exact (pr HO_6)); (case aS => exact (below_size bw)); (case aL => have := LMc19.out; omega); intro v246 w21 ho hb hg hat; rw [← Ny245.out] at ho; have n0_ := Aside0.mk (Kd.R_over' (pr HO_7) (Kd.R_typed (pr HO_6)) (by decide) hg); have n1_ := Aside0.mk (hb); have n2_ := Aside0.mk (ho); clear HO_7; clear HB; clear HO_6; have HO_7 := n0_; have HB := n1_; have HO247 := n2_; clear n0_ n1_ n2_; clear ho hb hg hat))); (try go_quiet (fail)))
            go_roundg k1
            case measure => have := HK1.out; omega
            case rel => exact ⟨(y245), (ji15), (by first | rfl | (simp; done) | (simp only [← hji15] <;> (first | rfl | simp)) | (simp [*]; done)), H', ⟨by have := HK1.out; omega⟩, ⟨pr HO247⟩, ⟨pr HO_7⟩, ⟨bw⟩⟩
           ·rw [if_neg c19] at H
            exact absurd H (by simp)
          ·rw [if_neg c18] at H
           have c18b0 : ((rdOf false y240 x21_1) != (rdOf false y240 (ji15))) = false := by simpa using c18
           (try (have c18b1 : decide ((rdOf false y240 x21_1) = (rdOf false y240 (ji15))) = true := by simpa using c18))
           (try (have c18b2 : ((rdOf false y240 x21_1) == (rdOf false y240 (ji15))) = true := by simpa using c18))
           clear c18
           have H' := Aside0.mk H
           clear H
           obtain ⟨Ao22, co22, eo22⟩ := Kd.R_slice HO_7.out
           subst eo22
           have p243 : 0 ≤ (x21_1 : Int) := of_decide_eq_true asm
           have q243 : x21_1 < (y240.length : Int) := of_decide_eq_true asm
           obtain ⟨ad243, e243, hx243_0⟩ := Kd.at_bool (Kd.R_reads' HO_7.out).2.2 x21_1 p243 q243
           cases e243
           replace p243 := eq_true p243
           replace q243 := eq_true q243
           have p244 : 0 ≤ ((ji15) : Int) := of_decide_eq_true asm
           have q244 : (ji15) < (y240.length : Int) := of_decide_eq_true asm
           obtain ⟨ad244, e244, hx244_0⟩ := Kd.at_bool (Kd.R_reads' HO_7.out).2.2 (ji15) p244 q244
           obtain rfl : ad243 = ad244 := (by injection e244)
           replace p244 := eq_true p244
           replace q244 := eq_true q244
           go_wp2
           repeat (go_quiet (fail); try go_wp2)
           go_roundg k1
           case measure => have := HK1.out; omega
           case rel => exact ⟨(x6_1), (ji15), (by first | rfl | (simp; done) | (simp only [← hji15] <;> (first | rfl | simp)) | (simp [*]; done)), H', ⟨by have := HK1.out; omega⟩, ⟨pr HO_6⟩, ⟨pr HO_7⟩, ⟨bw⟩⟩
         ·rw [if_neg c17] at H
          exact absurd H (by simp)
        ·rw [if_neg c16] at H
         exact absurd H (by simp)
       ·rw [if_neg c14] at H
        exact absurd H (by simp)
      ·rw [if_neg c13] at H
       exact absurd H (by simp)
     ·rw [if_neg c12] at H
      have c12b0 : decide (x21_1 < (a0.size : Int)) = false := decide_eq_false c12
      clear c12
      simp only [Option.some.injEq, Prod.mk.injEq] at H
      obtain ⟨rfl, rfl⟩ := H
      go_wp2
      repeat (go_quiet (fail); try go_wp2)
      go_ret2
      exact ⟨_, rs, pr HO_6, bw⟩
  ·rw [if_neg c6] at H
   exact absurd H (by simp)
 ·replace c4 := Bool.eq_false_iff.mpr c4
  subst c4
  rw [if_neg (show ¬ (false = true) by decide)] at H
  simp only [Option.some.injEq, Prod.mk.injEq] at H
  obtain ⟨rfl, rfl⟩ := H
  go_enter Tryd.func10, Tryd.ntmps10
  iterate 4 ((try go_wp2_with (first | (go_at_call 32; (with_reducible refine (impl_areOrdered.calls a0 a1 false _ A3.out).mono ?_); rintro e w23 ⟨rfl, hb⟩; replace HB := bs hb; (try clear hb)))); (try go_quiet (fail)))
  go_ret2
  exact ⟨_, rs, by first | exact Kd.R_nil _ _ _ _ _ | exact Kd.N_nil _ _ _ _ _ | exact Kd.V_nil _ _ _ _ _ | exact Kd.Q_nil _ _ _ _ _ | exact Kd.S_nil _ _ _ _ _, bw⟩

end Go.Proofs.YteoklfgmdcofcaaDoor.PFnOrdersTurn
