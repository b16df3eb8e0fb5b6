-- Laid by xprint, a program of this session that runs over the kit's print.
import Derived.Test.YtnkklkpbchffkaaGreatDoorPFnOrdersReachx0
import Derived.Test.YtnkklkpbchffkaaGreatDoorPFnOrdersReachx1
import Derived.Test.YtnkklkpbchffkaaGreatDoorPFnOrdersReachx2
import Derived.Test.YtnkklkpbchffkaaGreatDoorPFnOrdersReachx3
namespace Go.Proofs.YtnkklkpbchffkaaGreatDoor.PFnOrdersReach
open Go.RowKit Go.Proofs.YtnkklkpbchffkaaGreatDoorW.PrintWords Go.Proofs.YtnkklkpbchffkaaGreatDoorW.PrintLast Go.Proofs.YtnkklkpbchffkaaGreatDoorW.PrintMore Go.Proofs.YtnkklkpbchffkaaGreatDoor.Sq
attribute [local go_sem] max2_int min2_int max_two min_two max_three min_three max_four min_four   -- for this text's walks alone
set_option linter.unusedVariables false
set_option linter.unusedSimpArgs false

/-! ### spec_odWindows: function 39 -/
def spec_odWindows.l0 : Nat → ByteArray → ByteArray → Int → List Int → Int → Option (List Int × Bool)
  | 0, _, _, _, _, _ => none
  | k + 1, x0, x1, x2, x8, x9 => if (wrap64 (x9 + x2)) ≤ (x0.size : Int) then (if 0 ≤ x9 then (if x9 < (x0.size : Int) then (if x9 < (x1.size : Int) then (if (bt x0 x9) = (bt x1 x9) then (spec_odWindows.l0 k x0 x1 x2 x8 (wrap64 (x9 + 1))) else ((spec_odTurn.f k x0 x9 (wrap64 ((wrap64 (x9 + x2)) - 1))).bind fun t232 => (if x8.length < 17592186044416 then (spec_odWindows.l0 k t232 x1 x2 (x8 ++ [x9]) (wrap64 (x9 + 1))) else (none)))) else (none)) else (none)) else (none)) else (some (x8, (x0.toList == x1.toList)))
def spec_odWindows.f (k : Nat) (a0 : ByteArray) (a1 : ByteArray) (a2 : Int) : Option (List Int × Bool) := spec_odWindows.l0 k a0 a1 a2 ([] : List Int) 0
theorem spec_odWindows.mono_l : ∀ k, (∀ y0 y1 y2 y3 y4, LeO (spec_odWindows.l0 k y0 y1 y2 y3 y4) (spec_odWindows.l0 (k + 1) y0 y1 y2 y3 y4))
  | 0 => fun _ _ _ _ _ r h => by simp [spec_odWindows.l0] at h
  | k + 1 => by
    have ih0 := spec_odWindows.mono_l k
    · intro y0 y1 y2 y3 y4
      unfold spec_odWindows.l0
      repeat' first
      | (with_reducible exact ih0 _ _ _ _ _)
      | (with_reducible exact spec_odTurn.mono _ _ _ _)
      | (with_reducible exact LeO.refl _)
      | (with_reducible exact LeO.none _)
      | (with_reducible refine LeO.ite ?_ ?_)
      | (with_reducible refine LeO.bind ?_ (fun _ => ?_))
      | exact ih0 _ _ _ _ _
      | exact spec_odTurn.mono _ _ _ _
      | exact LeO.none _
      | refine LeO.ite ?_ ?_
      | refine LeO.bind ?_ (fun _ => ?_)
theorem spec_odWindows.mono : ∀ a0 a1 a2 k, LeO (spec_odWindows.f k a0 a1 a2) (spec_odWindows.f (k + 1) a0 a1 a2) := by
  intro a0 a1 a2 k
  have ih0 := spec_odWindows.mono_l k
  unfold spec_odWindows.f
  repeat' first
      | (with_reducible exact ih0 _ _ _ _ _)
      | (with_reducible exact spec_odTurn.mono _ _ _ _)
      | (with_reducible exact LeO.refl _)
      | (with_reducible exact LeO.none _)
      | (with_reducible refine LeO.ite ?_ ?_)
      | (with_reducible refine LeO.bind ?_ (fun _ => ?_))
      | exact ih0 _ _ _ _ _
      | exact spec_odTurn.mono _ _ _ _
      | exact LeO.none _
      | refine LeO.ite ?_ ?_
      | refine LeO.bind ?_ (fun _ => ?_)
set_option maxHeartbeats 8000000 in
set_option maxRecDepth 100000 in
theorem spec_odWindows.calls (k : Nat) (a0 : ByteArray) (a1 : ByteArray) (a2 : Int) (r1 : List Int) (r2 : Bool) (w : World) (h : spec_odWindows.f k a0 a1 a2 = some (r1, r2)) :
  Calls Tryz.prog 39 #[.string a0, .string a1, .int .i64 a2] w fun e w' => ∃ v0_ : Value, e = .returned (.tuple #[v0_, .bool r2]) ∧ Kd.R (Kd.int .i64) 3 w' w.heap.size (fun _ => True) v0_ r1 ∧ Below w.heap.size w w' := by
 have HB := Aside0.mk (Below.refl w.heap.size w)
 unfold spec_odWindows.f at h
 have H := h
 clear h
 have H' := Aside0.mk H
 clear H
 go_enter Tryz.func39, Tryz.ntmps39
 go_wp2
 repeat (go_quiet (fail); try go_wp2)
 go_loopg [0, 8, 9] k (fun kq v0 v8 v9 w' => ∃ (x0_1 : ByteArray) (x8_1 : List Int) (x9_1 : Int), v0 = .string x0_1 ∧ v9 = .int .i64 x9_1 ∧ Aside0 (spec_odWindows.l0 kq x0_1 a1 a2 x8_1 x9_1 = some (r1, r2)) ∧ Aside0 (kq ≤ k) ∧ Aside0 (Kd.R (Kd.int .i64) 3 w' w.heap.size (fun _ => True) v8 x8_1) ∧ Aside0 (Below w.heap.size w w'))
 case atStart => exact ⟨(a0), (([] : List Int)), (0), (rs), (rs), H', ⟨Nat.le_refl _⟩, ⟨by first | exact Kd.R_nil _ _ _ _ _ | exact Kd.N_nil _ _ _ _ _ | exact Kd.V_nil _ _ _ _ _ | exact Kd.Q_nil _ _ _ _ _ | exact Kd.S_nil _ _ _ _ _⟩, ⟨bw⟩⟩
 case round =>
  clear H'
  try clear p2
  try clear c3
  obtain ⟨x0_1, x8_1, x9_1, rfl, rfl, HA, HK1, HO_8, HB⟩ := hrel
  cases gk with
  | zero => exact absurd HA.out (by simp [spec_odWindows.l0])
  | succ k1 =>
   have H := HA.out
   clear HA
   simp only [spec_odWindows.l0] at H
   by_cases c4 : (wrap64 (x9_1 + a2)) ≤ (x0_1.size : Int)
   ·rw [if_pos c4] at H
    have c4b0 : decide ((wrap64 (x9_1 + a2)) ≤ (x0_1.size : Int)) = true := decide_eq_true c4
    clear c4
    by_cases c5 : 0 ≤ x9_1
    ·rw [if_pos c5] at H
     have c5b0 : decide (0 ≤ x9_1) = true := decide_eq_true c5
     clear c5
     by_cases c6 : x9_1 < (x0_1.size : Int)
     ·rw [if_pos c6] at H
      have c6b0 : decide (x9_1 < (x0_1.size : Int)) = true := decide_eq_true c6
      clear c6
      by_cases c8 : x9_1 < (a1.size : Int)
      ·rw [if_pos c8] at H
       have c8b0 : decide (x9_1 < (a1.size : Int)) = true := decide_eq_true c8
       clear c8
       by_cases c10 : (bt x0_1 x9_1) = (bt a1 x9_1)
       ·rw [if_pos c10] at H
        have c10b0 : ((bt x0_1 x9_1) == (bt a1 x9_1)) = true := beq_iff_eq.mpr c10
        have c10b1 : ((bt x0_1 x9_1) != (bt a1 x9_1)) = false := bne_eq_false_iff_eq.mpr c10
        clear c10
        have H' := Aside0.mk H
        clear H
        have p7 : 0 ≤ (x9_1 : Int) := of_decide_eq_true (by first | (with_reducible assumption) | assumption)
        have q7 : x9_1 < (x0_1.size : Int) := of_decide_eq_true (by first | (with_reducible assumption) | assumption)
        have hx7 := bt_at x0_1 x9_1
        replace p7 := eq_true p7
        replace q7 := eq_true q7
        have p9 : 0 ≤ (x9_1 : Int) := of_decide_eq_true (by first | (with_reducible assumption) | assumption)
        have q9 : x9_1 < (a1.size : Int) := of_decide_eq_true (by first | (with_reducible assumption) | assumption)
        have hx9 := bt_at a1 x9_1
        replace p9 := eq_true p9
        replace q9 := eq_true q9
        go_wp2
        repeat (go_quiet (fail); try go_wp2)
        go_roundg k1
        case measure => have := HK1.out; omega
        case rel => exact ⟨(x0_1), (x8_1), (wrap64 (x9_1 + 1)), (rs), (rs), H', ⟨by have := HK1.out; omega⟩, ⟨pr HO_8⟩, ⟨bw⟩⟩
       ·rw [if_neg c10] at H
        have c10b0 : ((bt x0_1 x9_1) == (bt a1 x9_1)) = false := beq_eq_false_iff_ne.mpr c10
        have c10b1 : ((bt x0_1 x9_1) != (bt a1 x9_1)) = true := bne_iff_ne.mpr c10
        replace H := Option.bind_eq_some_iff.mp H
        obtain ⟨t232, A110, H⟩ := H
        (try dsimp only at H)
        have A11 := Aside0.mk A110
        clear A110
        by_cases c12 : x8_1.length < 17592186044416
        ·rw [if_pos c12] at H
         have LMc12 := Aside0.mk c12
         clear c12
         obtain ⟨y233, hy233⟩ : ∃ y_ : List Int, y_ = (x8_1 ++ [x9_1]) := ⟨_, rfl⟩
         replace H : (spec_odWindows.l0 k1 t232 a1 a2 y233 (wrap64 (x9_1 + 1))) = some (r1, r2) := by first | (rw [hy233]; with_reducible exact H) | (have H2_ := (Option.bind_some _ _).symm.trans H; rw [hy233]; with_reducible exact H2_) | (have H2_ := (Option.bind_some _ _).symm.trans H; with_reducible exact H2_) | with_reducible exact H | (rw [hy233]; exact H) | exact H
         have Ny233 := Aside0.mk hy233
         clear hy233
         have H' := Aside0.mk H
         clear H
         have p7 : 0 ≤ (x9_1 : Int) := of_decide_eq_true (by first | (with_reducible assumption) | assumption)
         have q7 : x9_1 < (x0_1.size : Int) := of_decide_eq_true (by first | (with_reducible assumption) | assumption)
         have hx7 := bt_at x0_1 x9_1
         replace p7 := eq_true p7
         replace q7 := eq_true q7
         have p9 : 0 ≤ (x9_1 : Int) := of_decide_eq_true (by first | (with_reducible assumption) | assumption)
         have q9 : x9_1 < (a1.size : Int) := of_decide_eq_true (by first | (with_reducible assumption) | assumption)
         have hx9 := bt_at a1 x9_1
         replace p9 := eq_true p9
         replace q9 := eq_true q9
         go_wp2_with (first | (go_at_call 59; (with_reducible refine (spec_odTurn.calls k1 x0_1 x9_1 (wrap64 ((wrap64 (x9_1 + a2)) - 1)) t232 _ A11.out).mono ?_); rintro e w' ⟨rfl, ⟨nd, rfl⟩⟩; (try first | exact ⟨rfl, _, World.drewN_drewN _ _ _⟩ | exact ⟨rfl, _, Eq.trans (World.drewN_drewN _ _ _) (congrArg (World.drewN _) (Nat.add_assoc _ _ _))⟩)) | ((with_reducible refine gate_builtin (b := .append) (xs := #[.tmp 32, .tmp 34]) rfl ?_); at_builtin; refine Kd.R_append (Kd.int .i64) (w0 := w) w.heap.size rfl (.tmp 32) (.tmp 34) 26 3 (.int .i64 0) 8 rfl Tryz.underlying26 info3 rfl (by decide) (by omega) u8 x8_1 x9_1 [.int .i64 x9_1] (fun _ => True) (fun _ => False) rfl rfl ?aP (fun _ hk => hk.elim) ?aF ?aO ?aB ?aS ?aL ?_; (case aP => exact rfl); (case aB => exact bw); (case aF => exact (fun _ _ => trivial)); (case aO => exact (pr HO_8)); (case aS => exact (below_size bw)); (case aL => have := LMc12.out; omega); intro v234 w13 ho hb hg hat; rw [← Ny233.out] at ho; have n0_ := Aside0.mk (hb); have n1_ := Aside0.mk (ho); clear HB; clear HO_8; have HB := n0_; have HO235 := n1_; clear n0_ n1_; clear ho hb hg hat))
         repeat (go_quiet (first | (go_at_call 59; (with_reducible refine (spec_odTurn.calls k1 x0_1 x9_1 (wrap64 ((wrap64 (x9_1 + a2)) - 1)) t232 _ A11.out).mono ?_); rintro e w' ⟨rfl, ⟨nd, rfl⟩⟩; (try first | exact ⟨rfl, _, World.drewN_drewN _ _ _⟩ | exact ⟨rfl, _, Eq.trans (World.drewN_drewN _ _ _) (congrArg (World.drewN _) (Nat.add_assoc _ _ _))⟩)) | ((with_reducible refine gate_builtin (b := .append) (xs := #[.tmp 32, .tmp 34]) rfl ?_); at_builtin; refine Kd.R_append (Kd.int .i64) (w0 := w) w.heap.size rfl (.tmp 32) (.tmp 34) 26 3 (.int .i64 0) 8 rfl Tryz.underlying26 info3 rfl (by decide) (by omega) u8 x8_1 x9_1 [.int .i64 x9_1] (fun _ => True) (fun _ => False) rfl rfl ?aP (fun _ hk => hk.elim) ?aF ?aO ?aB ?aS ?aL ?_; (case aP => exact rfl); (case aB => exact bw); (case aF => exact (fun _ _ => trivial)); (case aO => exact (pr HO_8)); (case aS => exact (below_size bw)); (case aL => have := LMc12.out; omega); intro v234 w13 ho hb hg hat; rw [← Ny233.out] at ho; have n0_ := Aside0.mk (hb); have n1_ := Aside0.mk (ho); clear HB; clear HO_8; have HB := n0_; have HO235 := n1_; clear n0_ n1_; clear ho hb hg hat)); try go_wp2_with (first | (go_at_call 59; (with_reducible refine (spec_odTurn.calls k1 x0_1 x9_1 (wrap64 ((wrap64 (x9_1 + a2)) - 1)) t232 _ A11.out).mono ?_); rintro e w' ⟨rfl, ⟨nd, rfl⟩⟩; (try first | exact ⟨rfl, _, World.drewN_drewN _ _ _⟩ | exact ⟨rfl, _, Eq.trans (World.drewN_drewN _ _ _) (congrArg (World.drewN _) (Nat.add_assoc _ _ _))⟩)) | ((with_reducible refine gate_builtin (b := .append) (xs := #[.tmp 32, .tmp 34]) rfl ?_); at_builtin; refine Kd.R_append (Kd.int .i64) (w0 := w) w.heap.size rfl (.tmp 32) (.tmp 34) 26 3 (.int .i64 0) 8 rfl Tryz.underlying26 info3 rfl (by decide) (by omega) u8 x8_1 x9_1 [.int .i64 x9_1] (fun _ => True) (fun _ => False) rfl rfl ?aP (fun _ hk => hk.elim) ?aF ?aO ?aB ?aS ?aL ?_; (case aP => exact rfl); (case aB => exact bw); (case aF => exact (fun _ _ => trivial)); (case aO => exact (pr HO_8)); (case aS => exact (below_size bw)); (case aL => have := LMc12.out; omega); intro v234 w13 ho hb hg hat; rw [← Ny233.out] at ho; have n0_ := Aside0.mk (hb); have n1_ := Aside0.mk (ho); clear HB; clear HO_8; have HB := n0_; have HO235 := n1_; clear n0_ n1_; clear ho hb hg hat)))
         go_roundg k1
         case measure => have := HK1.out; omega
         case rel => exact ⟨(t232), (y233), (wrap64 (x9_1 + 1)), (rs), (rs), H', ⟨by have := HK1.out; omega⟩, ⟨pr HO235⟩, ⟨bw⟩⟩
        ·rw [if_neg c12] at H
         exact absurd H (by simp)
      ·rw [if_neg c8] at H
       exact absurd H (by simp)
     ·rw [if_neg c6] at H
      exact absurd H (by simp)
    ·rw [if_neg c5] at H
     exact absurd H (by simp)
   ·rw [if_neg c4] at H
    have c4b0 : decide ((wrap64 (x9_1 + a2)) ≤ (x0_1.size : Int)) = false := decide_eq_false c4
    clear c4
    simp only [Option.some.injEq, Prod.mk.injEq] at H
    obtain ⟨rfl, rfl⟩ := H
    go_wp2
    repeat (go_quiet (fail); try go_wp2)
    go_ret2
    exact ⟨_, rs, pr HO_8, bw⟩

/-! ### spec_WindowsTo: function 7 -/
def spec_WindowsTo.f (k : Nat) (a0 : ByteArray) (a1 : ByteArray) (a2 : Int) : Option (List Int × Bool) := (spec_odWide.f k a0 a1 a2).bind fun t236 => (if t236 = true then ((spec_odWindows.f k a0 a1 a2).bind fun bt237 => (if bt237.2 = true then (some (bt237.1, true)) else (some (([] : List Int), false)))) else (some (([] : List Int), false)))
theorem spec_WindowsTo.mono : ∀ a0 a1 a2 k, LeO (spec_WindowsTo.f k a0 a1 a2) (spec_WindowsTo.f (k + 1) a0 a1 a2) := by
  intro a0 a1 a2 k
  unfold spec_WindowsTo.f
  repeat' first
      | (with_reducible exact spec_odWide.mono _ _ _ _)
      | (with_reducible exact spec_odWindows.mono _ _ _ _)
      | (with_reducible exact LeO.refl _)
      | (with_reducible exact LeO.none _)
      | (with_reducible refine LeO.ite ?_ ?_)
      | (with_reducible refine LeO.bind ?_ (fun _ => ?_))
      | exact spec_odWide.mono _ _ _ _
      | exact spec_odWindows.mono _ _ _ _
      | exact LeO.none _
      | refine LeO.ite ?_ ?_
      | refine LeO.bind ?_ (fun _ => ?_)
set_option maxHeartbeats 8000000 in
set_option maxRecDepth 100000 in
theorem spec_WindowsTo.calls (k : Nat) (a0 : ByteArray) (a1 : ByteArray) (a2 : Int) (r1 : List Int) (r2 : Bool) (w : World) (h : spec_WindowsTo.f k a0 a1 a2 = some (r1, r2)) :
  Calls Tryz.prog 7 #[.string a0, .string a1, .int .i64 a2] w fun e w' => ∃ v0_ : Value, e = .returned (.tuple #[v0_, .bool r2]) ∧ Kd.R (Kd.int .i64) 3 w' w.heap.size (fun _ => True) v0_ r1 ∧ Below w.heap.size w w' := by
 have HB := Aside0.mk (Below.refl w.heap.size w)
 unfold spec_WindowsTo.f at h
 have H := h
 clear h
 replace H := Option.bind_eq_some_iff.mp H
 obtain ⟨t236, A40, H⟩ := H
 (try dsimp only at H)
 have A4 := Aside0.mk A40
 clear A40
 by_cases c5 : t236 = true
 ·subst c5
  rw [if_pos rfl] at H
  replace H := Option.bind_eq_some_iff.mp H
  obtain ⟨⟨t237, t238⟩, A60, H⟩ := H
  (try dsimp only at H)
  have A6 := Aside0.mk A60
  clear A60
  by_cases c7 : t238 = true
  ·subst c7
   rw [if_pos rfl] at H
   simp only [Option.some.injEq, Prod.mk.injEq] at H
   obtain ⟨rfl, rfl⟩ := H
   go_enter Tryz.func7, Tryz.ntmps7
   go_wp2_with (first | ((with_reducible refine gate_callee (f := 38) rfl ?_); refine gl (some 13) Tryz.func38 #[.string a0, .string a1, .int .i64 a2] ?_; (with_reducible refine (spec_odWide.calls k a0 a1 a2 true _ A4.out).mono ?_); rintro e w' ⟨rfl, ⟨nd, rfl⟩⟩; refine ⟨_, rfl, ?_⟩) | ((with_reducible refine gate_callee (f := 39) rfl ?_); refine gl (some 19) Tryz.func39 #[.string a0, .string a1, .int .i64 a2] ?_; (with_reducible refine (spec_odWindows.calls k a0 a1 a2 t237 true _ A6.out).mono ?_); rintro e w8 ⟨v239, rfl, ho0, hb⟩; refine ⟨_, rfl, ?_⟩; have HO240 := Aside0.mk (Kd.R_lower ho0 (below_size bw)); replace HB := bs hb; (try clear hb); (try clear ho0)))
   go_ret2
   exact ⟨_, rs, pr HO240, bw⟩
  ·replace c7 := Bool.eq_false_iff.mpr c7
   subst c7
   rw [if_neg (show ¬ (false = true) by decide)] at H
   simp only [Option.some.injEq, Prod.mk.injEq] at H
   obtain ⟨rfl, rfl⟩ := H
   go_enter Tryz.func7, Tryz.ntmps7
   go_wp2_with (first | ((with_reducible refine gate_callee (f := 38) rfl ?_); refine gl (some 13) Tryz.func38 #[.string a0, .string a1, .int .i64 a2] ?_; (with_reducible refine (spec_odWide.calls k a0 a1 a2 true _ A4.out).mono ?_); rintro e w' ⟨rfl, ⟨nd, rfl⟩⟩; refine ⟨_, rfl, ?_⟩) | ((with_reducible refine gate_callee (f := 39) rfl ?_); refine gl (some 19) Tryz.func39 #[.string a0, .string a1, .int .i64 a2] ?_; (with_reducible refine (spec_odWindows.calls k a0 a1 a2 t237 false _ A6.out).mono ?_); rintro e w9 ⟨v239, rfl, ho0, hb⟩; refine ⟨_, rfl, ?_⟩; have HO240 := Aside0.mk (Kd.R_lower ho0 (below_size bw)); replace HB := bs hb; (try clear hb); (try clear ho0)))
   go_ret2
   exact ⟨_, rs, by first | exact Kd.R_nil _ _ _ _ _ | exact Kd.N_nil _ _ _ _ _ | exact Kd.V_nil _ _ _ _ _ | exact Kd.Q_nil _ _ _ _ _ | exact Kd.S_nil _ _ _ _ _, bw⟩
 ·replace c5 := Bool.eq_false_iff.mpr c5
  subst c5
  rw [if_neg (show ¬ (false = true) by decide)] at H
  simp only [Option.some.injEq, Prod.mk.injEq] at H
  obtain ⟨rfl, rfl⟩ := H
  go_enter Tryz.func7, Tryz.ntmps7
  go_wp2_with (first | ((with_reducible refine gate_callee (f := 38) rfl ?_); refine gl (some 13) Tryz.func38 #[.string a0, .string a1, .int .i64 a2] ?_; (with_reducible refine (spec_odWide.calls k a0 a1 a2 false _ A4.out).mono ?_); rintro e w' ⟨rfl, ⟨nd, rfl⟩⟩; refine ⟨_, rfl, ?_⟩))
  go_ret2
  exact ⟨_, rs, by first | exact Kd.R_nil _ _ _ _ _ | exact Kd.N_nil _ _ _ _ _ | exact Kd.V_nil _ _ _ _ _ | exact Kd.Q_nil _ _ _ _ _ | exact Kd.S_nil _ _ _ _ _, bw⟩

/-! ### impl_CanByWindows: function 8 -/
def impl_CanByWindows.f (k : Nat) (a0 : ByteArray) (a1 : ByteArray) (a2 : Int) : Option (Bool × Bool) := (impl_areOrdered.f a0 a1).bind fun t241 => (if t241 = true then ((impl_in.f a2 1 (a0.size : Int)).bind fun t242 => (if t242 = true then ((impl_windowsTo.f k a0 a1 a2).bind fun bt243 => (some (bt243.2, true))) else (some (false, false)))) else (some (false, false)))
theorem impl_CanByWindows.mono : ∀ a0 a1 a2 k, LeO (impl_CanByWindows.f k a0 a1 a2) (impl_CanByWindows.f (k + 1) a0 a1 a2) := by
  intro a0 a1 a2 k
  unfold impl_CanByWindows.f
  repeat' first
      | (with_reducible exact impl_windowsTo.mono _ _ _ _)
      | (with_reducible exact LeO.refl _)
      | (with_reducible exact LeO.none _)
      | (with_reducible refine LeO.ite ?_ ?_)
      | (with_reducible refine LeO.bind ?_ (fun _ => ?_))
      | exact impl_windowsTo.mono _ _ _ _
      | exact LeO.none _
      | refine LeO.ite ?_ ?_
      | refine LeO.bind ?_ (fun _ => ?_)
set_option maxHeartbeats 8000000 in
set_option maxRecDepth 100000 in
theorem impl_CanByWindows.calls (k : Nat) (a0 : ByteArray) (a1 : ByteArray) (a2 : Int) (r1 : Bool) (r2 : Bool) (w : World) (h : impl_CanByWindows.f k a0 a1 a2 = some (r1, r2)) :
  Calls Tryz.prog 8 #[.string a0, .string a1, .int .i64 a2] w fun e w' => e = .returned (.tuple #[.bool r1, .bool r2]) ∧ Below w.heap.size w w' := by
 have HB := Aside0.mk (Below.refl w.heap.size w)
 unfold impl_CanByWindows.f at h
 have H := h
 clear h
 replace H := Option.bind_eq_some_iff.mp H
 obtain ⟨t241, A40, H⟩ := H
 (try dsimp only at H)
 have A4 := Aside0.mk A40
 clear A40
 by_cases c5 : t241 = true
 ·subst c5
  rw [if_pos rfl] at H
  replace H := Option.bind_eq_some_iff.mp H
  obtain ⟨t242, A60, H⟩ := H
  (try dsimp only at H)
  have A6 := Aside0.mk A60
  clear A60
  by_cases c7 : t242 = true
  ·subst c7
   rw [if_pos rfl] at H
   replace H := Option.bind_eq_some_iff.mp H
   obtain ⟨⟨t243, t244⟩, A80, H⟩ := H
   (try dsimp only at H)
   have A8 := Aside0.mk A80
   clear A80
   simp only [Option.some.injEq, Prod.mk.injEq] at H
   obtain ⟨rfl, rfl⟩ := H
   go_enter Tryz.func8, Tryz.ntmps8
   go_wp2_with (first | ((with_reducible refine gate_callee (f := 35) rfl ?_); refine gl (some 12) Tryz.func35 #[.string a0, .string a1] ?_; (with_reducible refine (impl_areOrdered.calls a0 a1 true _ A4.out).mono ?_); rintro e w9 ⟨rfl, hb⟩; refine ⟨_, rfl, ?_⟩; replace HB := bs hb; (try clear hb)) | (go_at_call 36; (with_reducible refine (impl_in.calls a2 1 (a0.size : Int) true _ A6.out).mono ?_); rintro e w' ⟨rfl, ⟨nd, rfl⟩⟩) | ((with_reducible refine gate_callee (f := 37) rfl ?_); refine gl (some 25) Tryz.func37 #[.string a0, .string a1, .int .i64 a2] ?_; (with_reducible refine (impl_windowsTo.calls k a0 a1 a2 t243 t244 _ A8.out).mono ?_); rintro e w10 ⟨v245, rfl, ho0, hb⟩; refine ⟨_, rfl, ?_⟩; have HO246 := Aside0.mk (Kd.R_lower ho0 (below_size bw)); replace HB := bs hb; (try clear hb); (try clear ho0)))
   go_ret2
   exact ⟨rs, bw⟩
  ·replace c7 := Bool.eq_false_iff.mpr c7
   subst c7
   rw [if_neg (show ¬ (false = true) by decide)] at H
   simp only [Option.some.injEq, Prod.mk.injEq] at H
   obtain ⟨rfl, rfl⟩ := H
   go_enter Tryz.func8, Tryz.ntmps8
   go_wp2_with (first | ((with_reducible refine gate_callee (f := 35) rfl ?_); refine gl (some 12) Tryz.func35 #[.string a0, .string a1] ?_; (with_reducible refine (impl_areOrdered.calls a0 a1 true _ A4.out).mono ?_); rintro e w11 ⟨rfl, hb⟩; refine ⟨_, rfl, ?_⟩; replace HB := bs hb; (try clear hb)) | (go_at_call 36; (with_reducible refine (impl_in.calls a2 1 (a0.size : Int) false _ A6.out).mono ?_); rintro e w' ⟨rfl, ⟨nd, rfl⟩⟩))
   go_ret2
   exact ⟨rs, bw⟩
 ·replace c5 := Bool.eq_false_iff.mpr c5
  subst c5
  rw [if_neg (show ¬ (false = true) by decide)] at H
  simp only [Option.some.injEq, Prod.mk.injEq] at H
  obtain ⟨rfl, rfl⟩ := H
  go_enter Tryz.func8, Tryz.ntmps8
  go_wp2_with (first | ((with_reducible refine gate_callee (f := 35) rfl ?_); refine gl (some 12) Tryz.func35 #[.string a0, .string a1] ?_; (with_reducible refine (impl_areOrdered.calls a0 a1 false _ A4.out).mono ?_); rintro e w12 ⟨rfl, hb⟩; refine ⟨_, rfl, ?_⟩; replace HB := bs hb; (try clear hb)))
  go_ret2
  exact ⟨rs, bw⟩

/-! ### spec_CanByWindows: function 9 -/
def spec_CanByWindows.f (k : Nat) (a0 : ByteArray) (a1 : ByteArray) (a2 : Int) : Option (Bool × Bool) := (spec_odWide.f k a0 a1 a2).bind fun t247 => (if t247 = true then ((spec_odWindows.f k a0 a1 a2).bind fun bt248 => (some (bt248.2, true))) else (some (false, false)))
theorem spec_CanByWindows.mono : ∀ a0 a1 a2 k, LeO (spec_CanByWindows.f k a0 a1 a2) (spec_CanByWindows.f (k + 1) a0 a1 a2) := by
  intro a0 a1 a2 k
  unfold spec_CanByWindows.f
  repeat' first
      | (with_reducible exact spec_odWide.mono _ _ _ _)
      | (with_reducible exact spec_odWindows.mono _ _ _ _)
      | (with_reducible exact LeO.refl _)
      | (with_reducible exact LeO.none _)
      | (with_reducible refine LeO.ite ?_ ?_)
      | (with_reducible refine LeO.bind ?_ (fun _ => ?_))
      | exact spec_odWide.mono _ _ _ _
      | exact spec_odWindows.mono _ _ _ _
      | exact LeO.none _
      | refine LeO.ite ?_ ?_
      | refine LeO.bind ?_ (fun _ => ?_)
set_option maxHeartbeats 8000000 in
set_option maxRecDepth 100000 in
theorem spec_CanByWindows.calls (k : Nat) (a0 : ByteArray) (a1 : ByteArray) (a2 : Int) (r1 : Bool) (r2 : Bool) (w : World) (h : spec_CanByWindows.f k a0 a1 a2 = some (r1, r2)) :
  Calls Tryz.prog 9 #[.string a0, .string a1, .int .i64 a2] w fun e w' => e = .returned (.tuple #[.bool r1, .bool r2]) ∧ Below w.heap.size w w' := by
 have HB := Aside0.mk (Below.refl w.heap.size w)
 unfold spec_CanByWindows.f at h
 have H := h
 clear h
 replace H := Option.bind_eq_some_iff.mp H
 obtain ⟨t247, A40, H⟩ := H
 (try dsimp only at H)
 have A4 := Aside0.mk A40
 clear A40
 by_cases c5 : t247 = true
 ·subst c5
  rw [if_pos rfl] at H
  replace H := Option.bind_eq_some_iff.mp H
  obtain ⟨⟨t248, t249⟩, A60, H⟩ := H
  (try dsimp only at H)
  have A6 := Aside0.mk A60
  clear A60
  simp only [Option.some.injEq, Prod.mk.injEq] at H
  obtain ⟨rfl, rfl⟩ := H
  go_enter Tryz.func9, Tryz.ntmps9
  go_wp2_with (first | ((with_reducible refine gate_callee (f := 38) rfl ?_); refine gl (some 13) Tryz.func38 #[.string a0, .string a1, .int .i64 a2] ?_; (with_reducible refine (spec_odWide.calls k a0 a1 a2 true _ A4.out).mono ?_); rintro e w' ⟨rfl, ⟨nd, rfl⟩⟩; refine ⟨_, rfl, ?_⟩) | ((with_reducible refine gate_callee (f := 39) rfl ?_); refine gl (some 19) Tryz.func39 #[.string a0, .string a1, .int .i64 a2] ?_; (with_reducible refine (spec_odWindows.calls k a0 a1 a2 t248 t249 _ A6.out).mono ?_); rintro e w7 ⟨v250, rfl, ho0, hb⟩; refine ⟨_, rfl, ?_⟩; have HO251 := Aside0.mk (Kd.R_lower ho0 (below_size bw)); replace HB := bs hb; (try clear hb); (try clear ho0)))
  go_ret2
  exact ⟨rs, bw⟩
 ·replace c5 := Bool.eq_false_iff.mpr c5
  subst c5
  rw [if_neg (show ¬ (false = true) by decide)] at H
  simp only [Option.some.injEq, Prod.mk.injEq] at H
  obtain ⟨rfl, rfl⟩ := H
  go_enter Tryz.func9, Tryz.ntmps9
  go_wp2_with (first | ((with_reducible refine gate_callee (f := 38) rfl ?_); refine gl (some 13) Tryz.func38 #[.string a0, .string a1, .int .i64 a2] ?_; (with_reducible refine (spec_odWide.calls k a0 a1 a2 false _ A4.out).mono ?_); rintro e w' ⟨rfl, ⟨nd, rfl⟩⟩; refine ⟨_, rfl, ?_⟩))
  go_ret2
  exact ⟨rs, bw⟩

/-! ### laws_mSame: function 10 -/
def laws_mSame.l0 : Nat → List Int → List Int → Int → Int → Option (Bool)
  | 0, _, _, _, _ => none
  | k + 1, x0, x1, x12, x13 => if x13 < x12 then (if 0 ≤ x13 then (if x13 < (x0.length : Int) then (if x13 < (x1.length : Int) then (if (rd x0 x13) = (rd x1 x13) then (laws_mSame.l0 k x0 x1 x12 (wrap64 (x13 + 1))) else (some false)) else (none)) else (none)) else (none)) else (some true)
def laws_mSame.f (k : Nat) (l0 : List Int) (l1 : List Int) : Option (Bool) := if (l0.length : Int) = (l1.length : Int) then (laws_mSame.l0 k l0 l1 (l0.length : Int) 0) else (some false)
theorem laws_mSame.mono_l : ∀ k, (∀ y0 y1 y2 y3, LeO (laws_mSame.l0 k y0 y1 y2 y3) (laws_mSame.l0 (k + 1) y0 y1 y2 y3))
  | 0 => fun _ _ _ _ r h => by simp [laws_mSame.l0] at h
  | k + 1 => by
    have ih0 := laws_mSame.mono_l k
    · intro y0 y1 y2 y3
      unfold laws_mSame.l0
      repeat' first
      | (with_reducible exact ih0 _ _ _ _)
      | (with_reducible exact LeO.refl _)
      | (with_reducible exact LeO.none _)
      | (with_reducible refine LeO.ite ?_ ?_)
      | (with_reducible refine LeO.bind ?_ (fun _ => ?_))
      | exact ih0 _ _ _ _
      | exact LeO.none _
      | refine LeO.ite ?_ ?_
      | refine LeO.bind ?_ (fun _ => ?_)
theorem laws_mSame.mono : ∀ a0 a1 k, LeO (laws_mSame.f k a0 a1) (laws_mSame.f (k + 1) a0 a1) := by
  intro a0 a1 k
  have ih0 := laws_mSame.mono_l k
  unfold laws_mSame.f
  repeat' first
      | (with_reducible exact ih0 _ _ _ _)
      | (with_reducible exact LeO.refl _)
      | (with_reducible exact LeO.none _)
      | (with_reducible refine LeO.ite ?_ ?_)
      | (with_reducible refine LeO.bind ?_ (fun _ => ?_))
      | exact ih0 _ _ _ _
      | exact LeO.none _
      | refine LeO.ite ?_ ?_
      | refine LeO.bind ?_ (fun _ => ?_)
set_option maxHeartbeats 8000000 in
set_option maxRecDepth 100000 in
theorem laws_mSame.calls (k : Nat) (A0 : Option Addr) (c0 : Nat) (l0 : List Int) (A1 : Option Addr) (c1 : Nat) (l1 : List Int) (r : Bool) (w : World) (hr0 : Kd.C (Kd.int .i64) w A0 l0.length l0) (hc0 : l0.length ≤ c0) (hr1 : Kd.C (Kd.int .i64) w A1 l1.length l1) (hc1 : l1.length ≤ c1) (h : laws_mSame.f k l0 l1 = some r) :
  Calls Tryz.prog 10 #[.slice A0 l0.length c0, .slice A1 l1.length c1] w fun e w' => e = .returned (.bool r) ∧ Drawn0 w w' := by
 have HR0 := Aside0.mk hr0
 have HC0 := Aside0.mk hc0
 clear hr0 hc0
 have HR1 := Aside0.mk hr1
 have HC1 := Aside0.mk hc1
 clear hr1 hc1
 unfold laws_mSame.f at h
 have H := h
 clear h
 by_cases c3 : (l0.length : Int) = (l1.length : Int)
 ·rw [if_pos c3] at H
  have c3b0 : ((l0.length : Int) == (l1.length : Int)) = true := beq_iff_eq.mpr c3
  have c3b1 : ((l0.length : Int) != (l1.length : Int)) = false := bne_eq_false_iff_eq.mpr c3
  have c3b2 : (l0.length == l1.length) = true := by first | simpa using c3 | (simp at c3 ⊢; omega)
  clear c3
  have H' := Aside0.mk H
  clear H
  go_enter Tryz.func10, Tryz.ntmps10
  go_wp2
  repeat (go_quiet (fail); try go_wp2)
  go_loopg [13] k (fun kq v13 w' => ∃ (x13_1 : Int), v13 = .int .i64 x13_1 ∧ Aside0 (laws_mSame.l0 kq l0 l1 (l0.length : Int) x13_1 = some r) ∧ Aside0 (kq ≤ k) ∧ Drawn0 w w')
  case atStart => exact ⟨(0), (rs), H', ⟨Nat.le_refl _⟩, by repeat (first | exact Drawn0.refl _ | apply Drawn0.step)⟩
  case round =>
   clear H'
   try clear c1
   try clear p2
   try clear c3
   try clear c3b0
   try clear c3b1
   try clear c3b2
   obtain ⟨x13_1, rfl, HA, HK1, ⟨m1, rfl⟩⟩ := hrel
   cases gk with
   | zero => exact absurd HA.out (by simp [laws_mSame.l0])
   | succ k1 =>
    have H := HA.out
    clear HA
    simp only [laws_mSame.l0] at H
    by_cases c4 : x13_1 < (l0.length : Int)
    ·rw [if_pos c4] at H
     have c4b0 : decide (x13_1 < (l0.length : Int)) = true := decide_eq_true c4
     clear c4
     by_cases c5 : 0 ≤ x13_1
     ·rw [if_pos c5] at H
      have c5b0 : decide (0 ≤ x13_1) = true := decide_eq_true c5
      clear c5
      by_cases c6 : x13_1 < (l0.length : Int)
      ·rw [if_pos c6] at H
       have c6b0 : decide (x13_1 < (l0.length : Int)) = true := decide_eq_true c6
       clear c6
       by_cases c7 : x13_1 < (l1.length : Int)
       ·rw [if_pos c7] at H
        have c7b0 : decide (x13_1 < (l1.length : Int)) = true := decide_eq_true c7
        clear c7
        by_cases c8 : (rd l0 x13_1) = (rd l1 x13_1)
        ·rw [if_pos c8] at H
         have c8b0 : ((rd l0 x13_1) == (rd l1 x13_1)) = true := beq_iff_eq.mpr c8
         have c8b1 : ((rd l0 x13_1) != (rd l1 x13_1)) = false := bne_eq_false_iff_eq.mpr c8
         clear c8
         have H' := Aside0.mk H
         clear H
         have p252 : 0 ≤ (x13_1 : Int) := of_decide_eq_true (by first | (with_reducible assumption) | assumption)
         have q252 : x13_1 < (l0.length : Int) := of_decide_eq_true (by first | (with_reducible assumption) | assumption)
         obtain ⟨ad252, e252, hx252_0⟩ := Kd.at_int HR0.out x13_1 p252 q252
         cases e252
         replace p252 := eq_true p252
         replace q252 := eq_true q252
         have p253 : 0 ≤ (x13_1 : Int) := of_decide_eq_true (by first | (with_reducible assumption) | assumption)
         have q253 : x13_1 < (l1.length : Int) := of_decide_eq_true (by first | (with_reducible assumption) | assumption)
         obtain ⟨ad253, e253, hx253_0⟩ := Kd.at_int HR1.out x13_1 p253 q253
         cases e253
         replace p253 := eq_true p253
         replace q253 := eq_true q253
         go_wp2
         repeat (go_quiet (fail); try go_wp2)
         go_roundg k1
         case measure => have := HK1.out; omega
         case rel => exact ⟨(wrap64 (x13_1 + 1)), (rs), H', ⟨by have := HK1.out; omega⟩, by repeat (first | exact Drawn0.refl _ | apply Drawn0.step)⟩
        ·rw [if_neg c8] at H
         have c8b0 : ((rd l0 x13_1) == (rd l1 x13_1)) = false := beq_eq_false_iff_ne.mpr c8
         have c8b1 : ((rd l0 x13_1) != (rd l1 x13_1)) = true := bne_iff_ne.mpr c8
         obtain rfl := Option.some.inj H
         have p252 : 0 ≤ (x13_1 : Int) := of_decide_eq_true (by first | (with_reducible assumption) | assumption)
         have q252 : x13_1 < (l0.length : Int) := of_decide_eq_true (by first | (with_reducible assumption) | assumption)
         obtain ⟨ad252, e252, hx252_0⟩ := Kd.at_int HR0.out x13_1 p252 q252
         cases e252
         replace p252 := eq_true p252
         replace q252 := eq_true q252
         have p253 : 0 ≤ (x13_1 : Int) := of_decide_eq_true (by first | (with_reducible assumption) | assumption)
         have q253 : x13_1 < (l1.length : Int) := of_decide_eq_true (by first | (with_reducible assumption) | assumption)
         obtain ⟨ad253, e253, hx253_0⟩ := Kd.at_int HR1.out x13_1 p253 q253
         cases e253
         replace p253 := eq_true p253
         replace q253 := eq_true q253
         go_wp2
         repeat (go_quiet (fail); try go_wp2)
         go_ret
         exact ⟨rs, by repeat (first | exact Drawn0.refl _ | apply Drawn0.step)⟩
       ·rw [if_neg c7] at H
        exact absurd H (by simp)
      ·rw [if_neg c6] at H
       exact absurd H (by simp)
     ·rw [if_neg c5] at H
      exact absurd H (by simp)
    ·rw [if_neg c4] at H
     have c4b0 : decide (x13_1 < (l0.length : Int)) = false := decide_eq_false c4
     clear c4
     obtain rfl := Option.some.inj H
     go_wp2
     repeat (go_quiet (fail); try go_wp2)
     go_ret
     exact ⟨rs, by repeat (first | exact Drawn0.refl _ | apply Drawn0.step)⟩
 ·rw [if_neg c3] at H
  have c3b0 : ((l0.length : Int) == (l1.length : Int)) = false := beq_eq_false_iff_ne.mpr c3
  have c3b1 : ((l0.length : Int) != (l1.length : Int)) = true := bne_iff_ne.mpr c3
  have c3b2 : (l0.length == l1.length) = false := by first | simpa using c3 | (simp at c3 ⊢; omega)
  obtain rfl := Option.some.inj H
  go_enter Tryz.func10, Tryz.ntmps10
  go_wp2
  repeat (go_quiet (fail); try go_wp2)
  go_ret
  exact ⟨rs, by repeat (first | exact Drawn0.refl _ | apply Drawn0.step)⟩

/-! ### impl_turned: function 65 -/
def impl_turned.f (a0 : ByteArray) : Option ByteArray := if a0.size < 35184372088832 then some ⟨(Lib.mapD (fun x => 122 - x) a0.data.toList).toArray⟩ else none
theorem impl_turned_clo (x : Nat) (hx : x ≤ 1114111) (W : World) : Calls Tryz.prog 80 (#[.int .i32 (x : Int)] ++ #[]) W fun e w' => e = .returned (.int .i32 (122 - (x : Int))) ∧ Below W.heap.size W w' := by
  have h1 : IntKind.i32.wrap (122 - (x : Int)) = 122 - (x : Int) := by simp [IntKind.wrap, IntKind.bits, IntKind.signed]; omega
  have h2 : wrap32 (122 - (x : Int)) = 122 - (x : Int) := by rw [← i32_w]; exact h1
  show Calls Tryz.prog 80 #[.int .i32 (x : Int)] W _
  go_enter Tryz.func80, Tryz.ntmps80
  go_wp2
  go_ret
  exact ⟨by first | rfl | simp, by repeat (first | exact Below.refl _ _ | apply pw_below_drewN)⟩
theorem impl_turned.calls (a0 : ByteArray) (r : ByteArray) (w : World) (hm : Dr.Tab w) (h : impl_turned.f a0 = some r) :
  Calls Tryz.prog 65 #[.string a0] w fun e w' => e = .returned (.string r) ∧ Below w.heap.size w w' := by
 unfold impl_turned.f at h
 split at h
 ·next hc =>
  obtain rfl := Option.some.inj h
  have HB := Aside0.mk (Below.refl w.heap.size w)
  have HMM := Aside0.mk hm
  clear hm h
  have hmap : ∀ W, Dr.Tab W → Calls Tryz.prog 79 #[.func (.func 80) #[] #[], .string a0] W _ := fun W hW =>
   Any.strings_Map_grows Tryz.lays230 Tryz.Builder_Extra_230 80 #[] (enters_of Tryz.func80 (by kernel_rfl) rfl) (fun x => 122 - x) a0 W hc (fun W' x hx _ => impl_turned_clo x hx W') (fun x hx => by omega) (Dr.Tab.utf8 hW)
  have HMP := Aside0.mk hmap
  clear hmap
  go_enter Tryz.func65, Tryz.ntmps65
  go_wp2_with (first | (go_at_call 79; (refine (HMP.out _ (Dr.mm HMM)).mono ?_); rintro e w1 ⟨rfl, hb⟩; replace HB := bs hb; clear hb))
  go_ret
  exact ⟨by first | rfl | simp, by repeat (first | exact HB.out | apply pw_below_drewN)⟩
 ·cases h

/-! ### impl_turnAll: function 41 -/
def impl_turnAll.f (a0 : ByteArray) (a1 : Int) (a2 : Int) : Option (ByteArray) := if 0 ≤ a1 then (if a1 ≤ (a0.size : Int) then (if a1 ≤ (wrap64 (a2 + 1)) then (if (wrap64 (a2 + 1)) ≤ (a0.size : Int) then ((impl_turned.f (a0.extract (a1 : Int).toNat ((wrap64 (a2 + 1)) : Int).toNat)).bind fun t254 => (if (a0.extract 0 (a1 : Int).toNat).size + t254.size ≤ 9223372036854775807 then (if 0 ≤ (wrap64 (a2 + 1)) then (if ((a0.extract 0 (a1 : Int).toNat) ++ t254).size + (a0.extract ((wrap64 (a2 + 1)) : Int).toNat a0.size).size ≤ 9223372036854775807 then (some (((a0.extract 0 (a1 : Int).toNat) ++ t254) ++ (a0.extract ((wrap64 (a2 + 1)) : Int).toNat a0.size))) else (none)) else (none)) else (none))) else (none)) else (none)) else (none)) else (none)
def impl_turnAll.T1 : Bool × List (List Nat × List Nat) := (true, [([], []), ([], []), ([0, 1], [0, 1]), ([], []), ([], []), ([], []), ([5], [5]), ([3, 4, 6], [3, 4, 6]), ([7], [7]), ([2, 8], [2, 8]), ([], []), ([], []), ([11], [11]), ([10, 12], [10, 12]), ([9, 13], [9, 13]), ([14, 8, 0, 1, 2, 3, 4, 5, 6, 7, 8, 9, 10, 11, 12, 13, 14], [14])])
def impl_turnAll.B1 : List Nat := [0, 0, 3, 0, 0, 0, 32, 120, 248, 511, 0, 0, 2048, 7168, 16383, 32767]
theorem impl_turnAll.tab1 : rtab .any (opsOf Tryz.f41 1) = impl_turnAll.T1 := by kernel_rfl
theorem impl_turnAll.bits1 : waitsOk impl_turnAll.T1.2 impl_turnAll.B1 = true := by kernel_rfl
set_option maxHeartbeats 8000000 in
set_option maxRecDepth 100000 in
theorem impl_turnAll.calls (a0 : ByteArray) (a1 : Int) (a2 : Int) (r : ByteArray) (w : World) (hm : Dr.Tab w) (h : impl_turnAll.f a0 a1 a2 = some r) :
  Calls Tryz.prog 41 #[.string a0, .int .i64 a1, .int .i64 a2] w fun e w' => e = .returned (.string r) ∧ Below w.heap.size w w' := by
 have HB := Aside0.mk (Below.refl w.heap.size w)
 have HMM := Aside0.mk hm
 clear hm
 unfold impl_turnAll.f at h
 have H := h
 clear h
 by_cases c4 : 0 ≤ a1
 ·rw [if_pos c4] at H
  have c4b0 := eq_true c4
  have c4b1 : decide (0 ≤ a1) = true := decide_eq_true c4
  clear c4
  by_cases c5 : a1 ≤ (a0.size : Int)
  ·rw [if_pos c5] at H
   have c5b0 := eq_true c5
   have c5b1 : decide (a1 ≤ (a0.size : Int)) = true := decide_eq_true c5
   clear c5
   have c6b0 := eq_true (of_decide_eq_true (by first | (with_reducible assumption) | assumption) : 0 ≤ a1)
   by_cases c7 : a1 ≤ (wrap64 (a2 + 1))
   ·rw [if_pos c7] at H
    have c7b0 := eq_true c7
    have c7b1 : decide (a1 ≤ (wrap64 (a2 + 1))) = true := decide_eq_true c7
    by_cases c8 : (wrap64 (a2 + 1)) ≤ (a0.size : Int)
    ·rw [if_pos c8] at H
     have c8b0 := eq_true c8
     have c8b1 : decide ((wrap64 (a2 + 1)) ≤ (a0.size : Int)) = true := decide_eq_true c8
     replace H := Option.bind_eq_some_iff.mp H
     obtain ⟨t254, A90, H⟩ := H
     (try dsimp only at H)
     have A9 := Aside0.mk A90
     clear A90
     by_cases c10 : (a0.extract 0 (a1 : Int).toNat).size + t254.size ≤ 9223372036854775807
     ·rw [if_pos c10] at H
      have c10b0 := eq_true c10
      have c10b1 : decide ((a0.extract 0 (a1 : Int).toNat).size + t254.size ≤ 9223372036854775807) = true := decide_eq_true c10
      try have c10b2 : (9223372036854775807 < (a0.extract 0 (a1 : Int).toNat).size + t254.size) = False := eq_false (Nat.not_lt.2 c10)
      try have c10b3 : (9223372036854775807 < (a1 : Int).toNat + t254.size) = False := eq_false (by have h9_ := c10; clear H; simp only [ByteArray.size_append, ByteArray.size_extract] at h9_; simp only [eq_iff_iff, iff_true, iff_false] at *; have z9_ : (⟨#[]⟩ : ByteArray).size = 0 := rfl; omega)
      obtain ⟨ji11, hji11⟩ : ∃ j_ : Int, (wrap64 (a2 + 1)) = j_ := ⟨_, rfl⟩
      replace H : (if 0 ≤ (ji11) then (if ((a0.extract 0 (a1 : Int).toNat) ++ t254).size + (a0.extract ((ji11) : Int).toNat a0.size).size ≤ 9223372036854775807 then (some (((a0.extract 0 (a1 : Int).toNat) ++ t254) ++ (a0.extract ((ji11) : Int).toNat a0.size))) else (none)) else (none)) = some r := by first | (rw [hji11] at H; exact H) | (simp only [hji11] at H ⊢; exact H)
      (try rw [hji11] at c7b0)
      (try rw [hji11] at c7b1)
      (try rw [hji11] at c7)
      (try rw [hji11] at c8b0)
      (try rw [hji11] at c8b1)
      (try rw [hji11] at c8)
      (try rw [hji11] at A9)
      have hji11w : (IntKind.i64.wrap (a2 + 1)) = ji11 := (i64_w _).trans hji11
      by_cases c12 : 0 ≤ (ji11)
      ·rw [if_pos c12] at H
       have c12b0 := eq_true c12
       have c12b1 : decide (0 ≤ (ji11)) = true := decide_eq_true c12
       clear c12
       have c13b0 := eq_true (of_decide_eq_true (by first | (with_reducible assumption) | assumption) : (ji11) ≤ (a0.size : Int))
       by_cases c14 : ((a0.extract 0 (a1 : Int).toNat) ++ t254).size + (a0.extract ((ji11) : Int).toNat a0.size).size ≤ 9223372036854775807
       ·rw [if_pos c14] at H
        have c14b0 := eq_true c14
        have c14b1 : decide (((a0.extract 0 (a1 : Int).toNat) ++ t254).size + (a0.extract ((ji11) : Int).toNat a0.size).size ≤ 9223372036854775807) = true := decide_eq_true c14
        try have c14b2 : (9223372036854775807 < ((a0.extract 0 (a1 : Int).toNat) ++ t254).size + (a0.extract ((ji11) : Int).toNat a0.size).size) = False := eq_false (Nat.not_lt.2 c14)
        try have c14b3 : (9223372036854775807 < (a1 : Int).toNat + t254.size + (a0.size - ((ji11) : Int).toNat)) = False := eq_false (by have h9_ := c14; clear H; simp only [ByteArray.size_append, ByteArray.size_extract] at h9_; simp only [eq_iff_iff, iff_true, iff_false] at *; have z9_ : (⟨#[]⟩ : ByteArray).size = 0 := rfl; omega)
        obtain rfl := Option.some.inj H
        go_enter Tryz.func41, Tryz.ntmps41
        try go_wp2
        replace HB := Aside0.mk (below_drew1 HB.out)
        refine start_ (n := 16) (S := fun w' => True) (ds := []) (tb 16 0) (by kernel_rfl) rfl rfl trivial (fun hHeld => ?_); refine with_tabW impl_turnAll.tab1 impl_turnAll.bits1 (fun HT_ HW_ => ?_)
        generalize w.drew = w15 at HB hHeld ⊢
        refine pu 0 (some 7) (tb 16 1) ?_
        refine pu 1 (some 8) (tb 16 3) ?_
        refine pu 2 (some 9) (tb 16 7) ?_
        refine pu 3 (some 10) (tb 16 15) ?_
        refine pu 4 (some 11) (tb 16 31) ?_
        refine pu 5 (some 12) (tb 16 63) ?_
        refine pu 6 (some 13) (tb 16 127) ?_
        refine pu 7 (some 14) (tb 16 255) ?_
        refine pu 10 (some 17) (tb 16 1279) ?_
        refine pu 11 (some 18) (tb 16 3327) ?_
        refine pu 12 (some 19) (tb 16 7423) ?_
        refine pu 13 (some 20) (tb 16 15615) ?_
        refine one_ (i := 8) (N := some 15) (tb 16 15871) rfl rfl (one_of HT_.out (by kernel_rfl)) (by decide) (fun K hK => ?_)
        refine goes_ Tryz.func65 (by kernel_rfl) rfl #[.string (a0.extract (a1 : Int).toNat ((ji11) : Int).toNat)] (by rfl) rfl rfl (by (try simp only [List.map_toArray, List.map_cons, List.map_nil]); first | done | (simp only [hji11]; rfl) | rfl | (simp only [List.length_drop, List.length_take]; rfl)) ?_
        with_reducible refine (impl_turned.calls (a0.extract (a1 : Int).toNat ((ji11) : Int).toNat) t254 _ ?side1 A9.out).mono ?_
        (case side1 => exact Dr.mm HMM)
        rintro e w16 ⟨rfl, hb⟩
        refine ⟨_, rfl, ?_⟩
        replace HB := bs hb
        (try clear hb)
        refine hK.out _ _ trivial (fun hHeld => ?_)
        clear hK K
        refine nm (some 15) ?_
        refine pu 9 (some 16) (tb 16 16383) ?_
        refine pu 14 (some 21) (tb 16 32767) ?_
        refine pu 15 (some 6) (tb 16 65535) ?_
        refine done_ (done_of HT_.out (by kernel_rfl)) ?_
        try go_wp2
        go_ret
        exact ⟨by first | rfl | (simp [errW_none, errW_some] <;> rfl) | (simp only [← hji11]; first | rfl | (simp [errW_none, errW_some] <;> rfl)) | (simp [*, errW_none, errW_some] <;> rfl), bw⟩
       ·rw [if_neg c14] at H
        exact absurd H (by simp)
      ·rw [if_neg c12] at H
       exact absurd H (by simp)
     ·rw [if_neg c10] at H
      exact absurd H (by simp)
    ·rw [if_neg c8] at H
     exact absurd H (by simp)
   ·rw [if_neg c7] at H
    exact absurd H (by simp)
  ·rw [if_neg c5] at H
   exact absurd H (by simp)
 ·rw [if_neg c4] at H
  exact absurd H (by simp)

end Go.Proofs.YtnkklkpbchffkaaGreatDoor.PFnOrdersReach
