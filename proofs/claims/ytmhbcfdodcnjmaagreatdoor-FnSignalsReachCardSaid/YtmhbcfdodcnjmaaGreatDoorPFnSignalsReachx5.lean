-- Laid by xprint, a program of this session that runs over the kit's print.
import Derived.Test.YtmhbcfdodcnjmaaGreatDoorPFnSignalsReachx0
import Derived.Test.YtmhbcfdodcnjmaaGreatDoorPFnSignalsReachx2
import Derived.Test.YtmhbcfdodcnjmaaGreatDoorPFnSignalsReachx3
import Derived.Test.YtmhbcfdodcnjmaaGreatDoorPFnSignalsReachx4
namespace Go.Proofs.YtmhbcfdodcnjmaaGreatDoor.PFnSignalsReach
open Go.RowKit Go.Proofs.YtmhbcfdodcnjmaaGreatDoorW.PrintWords Go.Proofs.YtmhbcfdodcnjmaaGreatDoorW.PrintLast Go.Proofs.YtmhbcfdodcnjmaaGreatDoorW.PrintMore Go.Proofs.YtmhbcfdodcnjmaaGreatDoor.Sq
attribute [local go_sem] max2_int min2_int max_two min_two max_three min_three max_four min_four   -- for this text's walks alone
set_option linter.unusedVariables false
set_option linter.unusedSimpArgs false

/-! ### spec_HeardBy: function 7 -/
mutual
def spec_HeardBy.j0 : Nat → Int → List (S36) → Int → Bool → Option (List Int × Bool)
  | 0, _, _, _, _ => none
  | k + 1, x0, x1, x2, x26 => if x26 = true then (some (([] : List Int), false)) else (spec_HeardBy.l0 k x0 x1 x2 ([] : List Int) 0)
def spec_HeardBy.l0 : Nat → Int → List (S36) → Int → List Int → Int → Option (List Int × Bool)
  | 0, _, _, _, _, _ => none
  | k + 1, x0, x1, x2, x8, x9 => if x9 < x0 then (spec_HeardBy.l1 k x0 x1 x2 x8 x9 false x1 (x1.length : Int) 0) else (some (x8, true))
def spec_HeardBy.l1 : Nat → Int → List (S36) → Int → List Int → Int → Bool → List (S36) → Int → Int → Option (List Int × Bool)
  | 0, _, _, _, _, _, _, _, _, _ => none
  | k + 1, x0, x1, x2, x8, x9, x10, x32, x33, x34 => if x34 < x33 then (if 0 ≤ x34 then (if x34 < (x32.length : Int) then (if x10 = true then (spec_HeardBy.l1 k x0 x1 x2 x8 x9 true x32 x33 (wrap64 (x34 + 1))) else ((spec_siFirst.f x0 ((rd_T36 x32 x34).f0) ((rd_T36 x32 x34).f1) ((rd_T36 x32 x34).f2) x9).bind fun t255 => (spec_HeardBy.l1 k x0 x1 x2 x8 x9 (decide (t255 ≤ x2)) x32 x33 (wrap64 (x34 + 1))))) else (none)) else (none)) else (if x10 = true then (if x8.length < 17592186044416 then (spec_HeardBy.l0 k x0 x1 x2 (x8 ++ [x9]) (wrap64 (x9 + 1))) else (none)) else (spec_HeardBy.l0 k x0 x1 x2 x8 (wrap64 (x9 + 1))))
end
def spec_HeardBy.f (k : Nat) (a0 : Int) (l1 : List (S36)) (a2 : Int) : Option (List Int × Bool) := (spec_siSoldiers.f a0).bind fun t250 => (if t250 = true then ((spec_siList.f k a0 l1).bind fun t251 => (if t251 = true then ((spec_siTime.f a2).bind fun t252 => (spec_HeardBy.j0 k a0 l1 a2 (!t252))) else (spec_HeardBy.j0 k a0 l1 a2 true))) else (spec_HeardBy.j0 k a0 l1 a2 true))
theorem spec_HeardBy.mono_l : ∀ k, (∀ y0 y1 y2 y3, LeO (spec_HeardBy.j0 k y0 y1 y2 y3) (spec_HeardBy.j0 (k + 1) y0 y1 y2 y3)) ∧ (∀ y0 y1 y2 y3 y4, LeO (spec_HeardBy.l0 k y0 y1 y2 y3 y4) (spec_HeardBy.l0 (k + 1) y0 y1 y2 y3 y4)) ∧ (∀ y0 y1 y2 y3 y4 y5 y6 y7 y8, LeO (spec_HeardBy.l1 k y0 y1 y2 y3 y4 y5 y6 y7 y8) (spec_HeardBy.l1 (k + 1) y0 y1 y2 y3 y4 y5 y6 y7 y8))
  | 0 => ⟨fun _ _ _ _ r h => by simp [spec_HeardBy.j0] at h, fun _ _ _ _ _ r h => by simp [spec_HeardBy.l0] at h, fun _ _ _ _ _ _ _ _ _ r h => by simp [spec_HeardBy.l1] at h⟩
  | k + 1 => by
    obtain ⟨ih0, ih1, ih2⟩ := spec_HeardBy.mono_l k
    refine ⟨?q0, ?q1, ?q2⟩
    case' q0 => (intros; unfold spec_HeardBy.j0)
    case' q1 => (intros; unfold spec_HeardBy.l0)
    case' q2 => (intros; unfold spec_HeardBy.l1)
    all_goals repeat' first
     | (with_reducible exact ih0 _ _ _ _)
     | (with_reducible exact ih1 _ _ _ _ _)
     | (with_reducible exact ih2 _ _ _ _ _ _ _ _ _)
     | (with_reducible exact spec_siList.mono _ _ _)
     | (with_reducible exact LeO.refl _)
     | (with_reducible exact LeO.none _)
     | (with_reducible refine LeO.ite ?_ ?_)
     | (with_reducible refine LeO.bind ?_ (fun _ => ?_))
     | exact ih0 _ _ _ _
     | exact ih1 _ _ _ _ _
     | exact ih2 _ _ _ _ _ _ _ _ _
     | exact spec_siList.mono _ _ _
     | exact LeO.none _
     | refine LeO.ite ?_ ?_
     | refine LeO.bind ?_ (fun _ => ?_)
theorem spec_HeardBy.mono : ∀ a0 a1 a2 k, LeO (spec_HeardBy.f k a0 a1 a2) (spec_HeardBy.f (k + 1) a0 a1 a2) := by
  intro a0 a1 a2 k
  obtain ⟨ih0, ih1, ih2⟩ := spec_HeardBy.mono_l k
  unfold spec_HeardBy.f
  repeat' first
      | (with_reducible exact ih0 _ _ _ _)
      | (with_reducible exact ih1 _ _ _ _ _)
      | (with_reducible exact ih2 _ _ _ _ _ _ _ _ _)
      | (with_reducible exact spec_siList.mono _ _ _)
      | (with_reducible exact LeO.refl _)
      | (with_reducible exact LeO.none _)
      | (with_reducible refine LeO.ite ?_ ?_)
      | (with_reducible refine LeO.bind ?_ (fun _ => ?_))
      | exact ih0 _ _ _ _
      | exact ih1 _ _ _ _ _
      | exact ih2 _ _ _ _ _ _ _ _ _
      | exact spec_siList.mono _ _ _
      | exact LeO.none _
      | refine LeO.ite ?_ ?_
      | refine LeO.bind ?_ (fun _ => ?_)
set_option maxHeartbeats 8000000 in
set_option maxRecDepth 100000 in
theorem spec_HeardBy.calls (k : Nat) (a0 : Int) (A1 : Option Addr) (c1 : Nat) (l1 : List (S36)) (a2 : Int) (r1 : List Int) (r2 : Bool) (w : World) (hr1 : Kd.C k36 w A1 l1.length l1) (hc1 : l1.length ≤ c1) (h : spec_HeardBy.f k a0 l1 a2 = some (r1, r2)) :
  Calls Tryz.prog 7 #[.int .i64 a0, .slice A1 l1.length c1, .int .i64 a2] w fun e w' => ∃ v0_ : Value, e = .returned (.tuple #[v0_, .bool r2]) ∧ Kd.R (Kd.int .i64) 3 w' w.heap.size (fun _ => True) v0_ r1 ∧ Below w.heap.size w w' := by
 have hu36 := Tryz.underlying36
 have HR1 := Aside0.mk hr1
 have HC1 := Aside0.mk hc1
 clear hr1 hc1
 have HB := Aside0.mk (Below.refl w.heap.size w)
 unfold spec_HeardBy.f at h
 have H := h
 clear h
 have HC4 := Aside0.mk H
 clear H
 go_enter Tryz.func7, Tryz.ntmps7
 go_upto_region 1 with (fail)
 go_cut [26] (fun v26 wc => ∃ (kq : Nat) (x26_3 : Bool), v26 = .bool x26_3 ∧ Aside0 (spec_HeardBy.j0 kq a0 l1 a2 x26_3 = some (r1, r2)) ∧ Aside0 (kq ≤ k) ∧ Aside0 (Below w.heap.size w wc))
 case first =>
  have H := HC4.out
  clear HC4
  replace H := Option.bind_eq_some_iff.mp H
  obtain ⟨t250, A50, H⟩ := H
  (try dsimp only at H)
  have A5 := Aside0.mk A50
  clear A50
  by_cases c6 : t250 = true
  ·subst c6
   rw [if_pos rfl] at H
   replace H := Option.bind_eq_some_iff.mp H
   obtain ⟨t251, A70, H⟩ := H
   (try dsimp only at H)
   have A7 := Aside0.mk A70
   clear A70
   by_cases c8 : t251 = true
   ·subst c8
    rw [if_pos rfl] at H
    replace H := Option.bind_eq_some_iff.mp H
    obtain ⟨t252, A90, H⟩ := H
    (try dsimp only at H)
    have A9 := Aside0.mk A90
    clear A90
    have H' := Aside0.mk H
    clear H
    go_wp2_with (first | ((with_reducible refine gate_callee (f := 43) rfl ?_); refine gl (some 14) Tryz.func43 #[.int .i64 a0] ?_; (with_reducible refine (spec_siSoldiers.calls a0 true _ A5.out).mono ?_); rintro e w' ⟨rfl, ⟨nd, rfl⟩⟩; refine ⟨_, rfl, ?_⟩) | (go_at_call 44; (with_reducible refine (spec_siList.calls k a0 _ _ l1 true _ ?side1 ?side2 A7.out).mono ?_); (case side1 => exact cb HR1); (case side2 => exact HC1.out); rintro e w10 ⟨rfl, hb⟩; replace HB := bs hb; (try clear hb)) | (go_at_call 45; (with_reducible refine (spec_siTime.calls a2 t252 _ A9.out).mono ?_); rintro e w' ⟨rfl, ⟨nd, rfl⟩⟩))
    go_meet
    case rel => exact ⟨_, (!t252), (rs), H', ⟨by first | omega | exact Nat.le_refl _⟩, ⟨bw⟩⟩
   ·replace c8 := Bool.eq_false_iff.mpr c8
    subst c8
    rw [if_neg (show ¬ (false = true) by decide)] at H
    have H' := Aside0.mk H
    clear H
    go_wp2_with (first | ((with_reducible refine gate_callee (f := 43) rfl ?_); refine gl (some 14) Tryz.func43 #[.int .i64 a0] ?_; (with_reducible refine (spec_siSoldiers.calls a0 true _ A5.out).mono ?_); rintro e w' ⟨rfl, ⟨nd, rfl⟩⟩; refine ⟨_, rfl, ?_⟩) | (go_at_call 44; (with_reducible refine (spec_siList.calls k a0 _ _ l1 false _ ?side1 ?side2 A7.out).mono ?_); (case side1 => exact cb HR1); (case side2 => exact HC1.out); rintro e w11 ⟨rfl, hb⟩; replace HB := bs hb; (try clear hb)))
    go_meet
    case rel => exact ⟨_, (true), (rs), H', ⟨by first | omega | exact Nat.le_refl _⟩, ⟨bw⟩⟩
  ·replace c6 := Bool.eq_false_iff.mpr c6
   subst c6
   rw [if_neg (show ¬ (false = true) by decide)] at H
   have H' := Aside0.mk H
   clear H
   go_wp2_with (first | ((with_reducible refine gate_callee (f := 43) rfl ?_); refine gl (some 14) Tryz.func43 #[.int .i64 a0] ?_; (with_reducible refine (spec_siSoldiers.calls a0 false _ A5.out).mono ?_); rintro e w' ⟨rfl, ⟨nd, rfl⟩⟩; refine ⟨_, rfl, ?_⟩))
   go_meet
   case rel => exact ⟨_, (true), (rs), H', ⟨by first | omega | exact Nat.le_refl _⟩, ⟨bw⟩⟩
 case rest =>
  clear HC4
  try clear c1
  try clear p2
  try clear c4
  try clear c6
  try clear c7
  try clear c8
  obtain ⟨kq, x26_3, rfl, HA, HJ3, HB⟩ := hcut
  cases kq with
  | zero => exact absurd HA.out (by simp [spec_HeardBy.j0])
  | succ kj3 =>
   have H := HA.out
   clear HA
   simp only [spec_HeardBy.j0] at H
   by_cases c12 : x26_3 = true
   ·subst c12
    rw [if_pos rfl] at H
    simp only [Option.some.injEq, Prod.mk.injEq] at H
    obtain ⟨rfl, rfl⟩ := H
    go_wp2
    go_ret2
    exact ⟨_, rs, by first | exact Kd.R_nil _ _ _ _ _ | exact Kd.N_nil _ _ _ _ _ | exact Kd.V_nil _ _ _ _ _ | exact Kd.Q_nil _ _ _ _ _ | exact Kd.S_nil _ _ _ _ _, bw⟩
   ·replace c12 := Bool.eq_false_iff.mpr c12
    subst c12
    rw [if_neg (show ¬ (false = true) by decide)] at H
    have H' := Aside0.mk H
    clear H
    go_wp2
    go_loopg [8, 9] kj3 (fun kq v8 v9 w' => ∃ (x8_2 : List Int) (x9_2 : Int), v9 = .int .i64 x9_2 ∧ Aside0 (spec_HeardBy.l0 kq a0 l1 a2 x8_2 x9_2 = some (r1, r2)) ∧ Aside0 (kq ≤ kj3) ∧ Aside0 (Kd.R (Kd.int .i64) 3 w' w.heap.size (fun _ => True) v8 x8_2) ∧ Aside0 (Below w.heap.size w w'))
    case atStart => exact ⟨(([] : List Int)), (0), (rs), H', ⟨Nat.le_refl _⟩, ⟨by first | exact Kd.R_nil _ _ _ _ _ | exact Kd.N_nil _ _ _ _ _ | exact Kd.V_nil _ _ _ _ _ | exact Kd.Q_nil _ _ _ _ _ | exact Kd.S_nil _ _ _ _ _⟩, ⟨bw⟩⟩
    case round =>
     clear H'
     try clear c1
     try clear p2
     try clear c4
     try clear c6
     try clear c7
     try clear c8
     try clear c12
     try clear p2
     obtain ⟨x8_2, x9_2, rfl, HA, HK2, HO_8, HB⟩ := hrel
     cases gk with
     | zero => exact absurd HA.out (by simp [spec_HeardBy.l0])
     | succ k2 =>
      have H := HA.out
      clear HA
      simp only [spec_HeardBy.l0] at H
      by_cases c13 : x9_2 < a0
      ·rw [if_pos c13] at H
       have c13b0 : decide (x9_2 < a0) = true := decide_eq_true c13
       clear c13
       have H' := Aside0.mk H
       clear H
       go_wp2
       go_loopg [10, 34] k2 (fun kq v10 v34 w' => ∃ (x10_3 : Bool) (x34_3 : Int), v10 = .bool x10_3 ∧ v34 = .int .i64 x34_3 ∧ Aside0 (spec_HeardBy.l1 kq a0 l1 a2 x8_2 x9_2 x10_3 l1 (l1.length : Int) x34_3 = some (r1, r2)) ∧ Aside0 (kq ≤ k2) ∧ Aside0 (Kd.R (Kd.int .i64) 3 w' w.heap.size (fun _ => True) u8 x8_2) ∧ Aside0 (Below w.heap.size w w'))
       case atStart => exact ⟨(false), (0), (rs), (rs), H', ⟨Nat.le_refl _⟩, ⟨pr HO_8⟩, ⟨bw⟩⟩
       case round =>
        clear H'
        try clear c1
        try clear p2
        try clear c4
        try clear c6
        try clear c7
        try clear c8
        try clear c12
        try clear c13
        try clear c13b0
        try clear p2
        obtain ⟨x10_3, x34_3, rfl, rfl, HA, HK3, HO_8, HB⟩ := hrel
        cases gk with
        | zero => exact absurd HA.out (by simp [spec_HeardBy.l1])
        | succ k3 =>
         have H := HA.out
         clear HA
         simp only [spec_HeardBy.l1] at H
         by_cases c14 : x34_3 < (l1.length : Int)
         ·rw [if_pos c14] at H
          have c14b0 : decide (x34_3 < (l1.length : Int)) = true := decide_eq_true c14
          clear c14
          by_cases c15 : 0 ≤ x34_3
          ·rw [if_pos c15] at H
           have c15b0 : decide (0 ≤ x34_3) = true := decide_eq_true c15
           clear c15
           by_cases c16 : x34_3 < (l1.length : Int)
           ·rw [if_pos c16] at H
            have c16b0 : decide (x34_3 < (l1.length : Int)) = true := decide_eq_true c16
            clear c16
            by_cases c17 : x10_3 = true
            ·subst c17
             rw [if_pos rfl] at H
             have H' := Aside0.mk H
             clear H
             have p253 : 0 ≤ (x34_3 : Int) := of_decide_eq_true asm
             have q253 : x34_3 < (l1.length : Int) := of_decide_eq_true asm
             obtain ⟨ad253, e253, hx253_0, hx253_1, hx253_2⟩ := at_T36 HR1.out x34_3 p253 q253
             cases e253
             replace hx253_0 := (HB.out.cell (World.block_lt_of_cell? w _ hx253_0)).trans hx253_0
             replace hx253_1 := (HB.out.cell (World.block_lt_of_cell? w _ hx253_1)).trans hx253_1
             replace hx253_2 := (HB.out.cell (World.block_lt_of_cell? w _ hx253_2)).trans hx253_2
             replace p253 := eq_true p253
             replace q253 := eq_true q253
             go_wp2_with (first | ((with_reducible refine gate_dst (N := 12) rfl ?_); refine bx 12 36 #[.int .i64 0, .bool false, .int .i64 0] ?_; intro gb254 hg w18 hbox hb; replace HO_8 := rl HO_8 hb; have BK254 := hbox; have GW254 := gs hg; have GE254 := gs hg; replace HB := bs hb; clear hb hbox hg; have hcz19_0 := bc BK254 0 (.int .i64 0); have hcz19_1 := bc BK254 1 (.bool false); have hcz19_2 := bc BK254 2 (.int .i64 0); have hfz19_0 := blk_frozen BK254.out 0; have hfz19_1 := blk_frozen BK254.out 1; have hfz19_2 := blk_frozen BK254.out 2))
             go_roundg k3
             case measure => have := HJ3.out; have := HK2.out; have := HK3.out; omega
             case rel => exact ⟨(true), (wrap64 (x34_3 + 1)), (rs), (rs), H', ⟨by have := HJ3.out; have := HK2.out; have := HK3.out; omega⟩, ⟨by (with_reducible repeat (first | apply Kd.R_alloc | apply Kd.R_drewN | apply Kd.R_drew)); exact Kd.R_mono (Kd.R_far (p := ⟨gb254, 2, none⟩) (Kd.R_far (p := ⟨gb254, 1, none⟩) (Kd.R_far (p := ⟨gb254, 0, none⟩) (Kd.R_types HO_8.out BK254.out (by decide)) (fun _ hk => hk.2) (.int .i64 ((rd_T36 l1 x34_3).f0))) (fun _ hk => hk.2) (.bool ((rd_T36 l1 x34_3).f1))) (fun _ hk => hk.2) (.int .i64 ((rd_T36 l1 x34_3).f2))) (fun _ hk => trivial)⟩, ⟨bw⟩⟩
            ·replace c17 := Bool.eq_false_iff.mpr c17
             subst c17
             rw [if_neg (show ¬ (false = true) by decide)] at H
             replace H := Option.bind_eq_some_iff.mp H
             obtain ⟨t255, A200, H⟩ := H
             (try dsimp only at H)
             have A20 := Aside0.mk A200
             clear A200
             have H' := Aside0.mk H
             clear H
             have p253 : 0 ≤ (x34_3 : Int) := of_decide_eq_true asm
             have q253 : x34_3 < (l1.length : Int) := of_decide_eq_true asm
             obtain ⟨ad253, e253, hx253_0, hx253_1, hx253_2⟩ := at_T36 HR1.out x34_3 p253 q253
             cases e253
             replace hx253_0 := (HB.out.cell (World.block_lt_of_cell? w _ hx253_0)).trans hx253_0
             replace hx253_1 := (HB.out.cell (World.block_lt_of_cell? w _ hx253_1)).trans hx253_1
             replace hx253_2 := (HB.out.cell (World.block_lt_of_cell? w _ hx253_2)).trans hx253_2
             replace p253 := eq_true p253
             replace q253 := eq_true q253
             go_wp2_with (first | ((with_reducible refine gate_dst (N := 12) rfl ?_); refine bx 12 36 #[.int .i64 0, .bool false, .int .i64 0] ?_; intro gb254 hg w21 hbox hb; replace HO_8 := rl HO_8 hb; have BK254 := hbox; have GW254 := gs hg; have GE254 := gs hg; replace HB := bs hb; clear hb hbox hg; have hcz22_0 := bc BK254 0 (.int .i64 0); have hcz22_1 := bc BK254 1 (.bool false); have hcz22_2 := bc BK254 2 (.int .i64 0); have hfz22_0 := blk_frozen BK254.out 0; have hfz22_1 := blk_frozen BK254.out 1; have hfz22_2 := blk_frozen BK254.out 2) | (go_at_call 46; (with_reducible refine (spec_siFirst.calls a0 ((rd_T36 l1 x34_3).f0) ((rd_T36 l1 x34_3).f1) ((rd_T36 l1 x34_3).f2) x9_2 t255 _ A20.out).mono ?_); rintro e w23 ⟨rfl, hb⟩; replace HO_8 := Aside0.mk (Kd.R_below (qf3 HO_8) hb); replace BK254 := Aside0.mk (blk_below (g := gb254) (o := .cells #[.int .i64 ((rd_T36 l1 x34_3).f0), .bool ((rd_T36 l1 x34_3).f1), .int .i64 ((rd_T36 l1 x34_3).f2)] 36 (0, 0)) (by (with_reducible repeat (first | refine blk_drewN ?_ _ | refine blk_drew ?_ | refine blk_alloc ?_ _)); refine blk_put (cs := #[.int .i64 ((rd_T36 l1 x34_3).f0), .bool ((rd_T36 l1 x34_3).f1), .int .i64 0]) ?_ 2 _ rfl; (with_reducible repeat (first | refine blk_drewN ?_ _ | refine blk_drew ?_ | refine blk_alloc ?_ _)); refine blk_put (cs := #[.int .i64 ((rd_T36 l1 x34_3).f0), .bool false, .int .i64 0]) ?_ 1 _ rfl; (with_reducible repeat (first | refine blk_drewN ?_ _ | refine blk_drew ?_ | refine blk_alloc ?_ _)); refine blk_put (cs := #[.int .i64 0, .bool false, .int .i64 0]) ?_ 0 _ rfl; (with_reducible repeat (first | refine blk_drewN ?_ _ | refine blk_drew ?_ | refine blk_alloc ?_ _)); exact BK254.out) hb); replace HB := bs hb; (try clear hb)))
             go_roundg k3
             case measure => have := HJ3.out; have := HK2.out; have := HK3.out; omega
             case rel => exact ⟨(decide (t255 ≤ a2)), (wrap64 (x34_3 + 1)), (rs), (rs), H', ⟨by have := HJ3.out; have := HK2.out; have := HK3.out; omega⟩, ⟨pr HO_8⟩, ⟨bw⟩⟩
           ·rw [if_neg c16] at H
            exact absurd H (by simp)
          ·rw [if_neg c15] at H
           exact absurd H (by simp)
         ·rw [if_neg c14] at H
          have c14b0 : decide (x34_3 < (l1.length : Int)) = false := decide_eq_false c14
          clear c14
          by_cases c24 : x10_3 = true
          ·subst c24
           rw [if_pos rfl] at H
           by_cases c25 : x8_2.length < 17592186044416
           ·rw [if_pos c25] at H
            have LMc25 := Aside0.mk c25
            clear c25
            obtain ⟨y256, hy256⟩ : ∃ y_ : List Int, y_ = (x8_2 ++ [x9_2]) := ⟨_, rfl⟩
            replace H : (spec_HeardBy.l0 k3 a0 l1 a2 y256 (wrap64 (x9_2 + 1))) = some (r1, r2) := by first | (rw [hy256]; with_reducible exact H) | (have H2_ := (Option.bind_some _ _).symm.trans H; rw [hy256]; with_reducible exact H2_) | (have H2_ := (Option.bind_some _ _).symm.trans H; with_reducible exact H2_) | with_reducible exact H | (rw [hy256]; exact H) | exact H
            have Ny256 := Aside0.mk hy256
            clear hy256
            have H' := Aside0.mk H
            clear H
            go_wp2_with (first | ((with_reducible refine gate_builtin (b := .append) (xs := #[.tmp 49, .tmp 51]) rfl ?_); at_builtin; refine Kd.R_append (Kd.int .i64) (w0 := w) w.heap.size rfl (.tmp 49) (.tmp 51) 27 3 (.int .i64 0) 8 rfl Tryz.underlying27 info3 rfl (by decide) (by omega) u8 x8_2 x9_2 [.int .i64 x9_2] (fun _ => True) (fun _ => False) rfl rfl ?aP (fun _ hk => hk.elim) ?aF ?aO ?aB ?aS ?aL ?_; (case aP => exact rfl); (case aB => exact bw); (case aF => exact (fun _ _ => trivial)); (case aO => exact (pr HO_8)); (case aS => exact (below_size bw)); (case aL => have := LMc25.out; omega); intro v257 w26 ho hb hg hat; rw [← Ny256.out] at ho; have n0_ := Aside0.mk (hb); have n1_ := Aside0.mk (ho); clear HB; clear HO_8; have HB := n0_; have HO258 := n1_; clear n0_ n1_; clear ho hb hg hat))
            go_roundg k3
            case measure => have := HJ3.out; have := HK2.out; have := HK3.out; omega
            case rel => exact ⟨(y256), (wrap64 (x9_2 + 1)), (rs), H', ⟨by have := HJ3.out; have := HK2.out; have := HK3.out; omega⟩, ⟨pr HO258⟩, ⟨bw⟩⟩
           ·rw [if_neg c25] at H
            exact absurd H (by simp)
          ·replace c24 := Bool.eq_false_iff.mpr c24
           subst c24
           rw [if_neg (show ¬ (false = true) by decide)] at H
           have H' := Aside0.mk H
           clear H
           go_wp2
           go_roundg k3
           case measure => have := HJ3.out; have := HK2.out; have := HK3.out; omega
           case rel => exact ⟨(x8_2), (wrap64 (x9_2 + 1)), (rs), H', ⟨by have := HJ3.out; have := HK2.out; have := HK3.out; omega⟩, ⟨pr HO_8⟩, ⟨bw⟩⟩
      ·rw [if_neg c13] at H
       have c13b0 : decide (x9_2 < a0) = false := decide_eq_false c13
       clear c13
       simp only [Option.some.injEq, Prod.mk.injEq] at H
       obtain ⟨rfl, rfl⟩ := H
       go_wp2
       go_ret2
       exact ⟨_, rs, pr HO_8, bw⟩

/-! ### slices_Max_int_int: function 47 -/
def slices_Max_int_int.l0 : Nat → List Int → Int → Int → Option (Int)
  | 0, _, _, _ => none
  | k + 1, x0, x3, x4 => if x4 < (x0.length : Int) then (if 0 ≤ x4 then (slices_Max_int_int.l0 k x0 (mx x3 (rd x0 x4)) (wrap64 (x4 + 1))) else (none)) else (some x3)
def slices_Max_int_int.f (k : Nat) (l0 : List Int) : Option (Int) := if (l0.length : Int) < 1 then (none) else (if 0 < (l0.length : Int) then (slices_Max_int_int.l0 k l0 (rd l0 0) 1) else (none))
theorem slices_Max_int_int.mono_l : ∀ k, (∀ y0 y1 y2, LeO (slices_Max_int_int.l0 k y0 y1 y2) (slices_Max_int_int.l0 (k + 1) y0 y1 y2))
  | 0 => fun _ _ _ r h => by simp [slices_Max_int_int.l0] at h
  | k + 1 => by
    have ih0 := slices_Max_int_int.mono_l k
    · intro y0 y1 y2
      unfold slices_Max_int_int.l0
      repeat' first
      | (with_reducible exact ih0 _ _ _)
      | (with_reducible exact LeO.refl _)
      | (with_reducible exact LeO.none _)
      | (with_reducible refine LeO.ite ?_ ?_)
      | (with_reducible refine LeO.bind ?_ (fun _ => ?_))
      | exact ih0 _ _ _
      | exact LeO.none _
      | refine LeO.ite ?_ ?_
      | refine LeO.bind ?_ (fun _ => ?_)
theorem slices_Max_int_int.mono : ∀ a0 k, LeO (slices_Max_int_int.f k a0) (slices_Max_int_int.f (k + 1) a0) := by
  intro a0 k
  have ih0 := slices_Max_int_int.mono_l k
  unfold slices_Max_int_int.f
  repeat' first
      | (with_reducible exact ih0 _ _ _)
      | (with_reducible exact LeO.refl _)
      | (with_reducible exact LeO.none _)
      | (with_reducible refine LeO.ite ?_ ?_)
      | (with_reducible refine LeO.bind ?_ (fun _ => ?_))
      | exact ih0 _ _ _
      | exact LeO.none _
      | refine LeO.ite ?_ ?_
      | refine LeO.bind ?_ (fun _ => ?_)
set_option maxHeartbeats 8000000 in
set_option maxRecDepth 100000 in
theorem slices_Max_int_int.calls (k : Nat) (A0 : Option Addr) (c0 : Nat) (l0 : List Int) (r : Int) (w : World) (hr0 : Kd.C (Kd.int .i64) w A0 l0.length l0) (hc0 : l0.length ≤ c0) (h : slices_Max_int_int.f k l0 = some r) :
  Calls Tryz.prog 47 #[.slice A0 l0.length c0] w fun e w' => e = .returned (.int .i64 r) ∧ Below w.heap.size w w' := by
 have HR0 := Aside0.mk hr0
 have HC0 := Aside0.mk hc0
 clear hr0 hc0
 have HB := Aside0.mk (Below.refl w.heap.size w)
 unfold slices_Max_int_int.f at h
 have H := h
 clear h
 by_cases c2 : (l0.length : Int) < 1
 ·rw [if_pos c2] at H
  exact absurd H (by simp)
 ·rw [if_neg c2] at H
  have c2b0 : decide ((l0.length : Int) < 1) = false := decide_eq_false c2
  have c2b1 : decide (l0.length < 1) = false := decide_eq_false (by omega)
  clear c2
  by_cases c3 : 0 < (l0.length : Int)
  ·rw [if_pos c3] at H
   have c3b0 : decide (0 < (l0.length : Int)) = true := decide_eq_true c3
   have c3b1 : decide (0 < l0.length) = true := decide_eq_true (by omega)
   clear c3
   have H' := Aside0.mk H
   clear H
   have p259 : 0 ≤ (0 : Int) := (by omega)
   have q259 : 0 < (l0.length : Int) := of_decide_eq_true asm
   obtain ⟨ad259, e259, hx259_0⟩ := Kd.at_int HR0.out 0 p259 q259
   cases e259
   have qi259 : (0 < l0.length) = True := eq_true (by omega)
   (try rw [show ((0 : Int)).toNat = 0 from rfl] at hx259_0)
   (try rw [Addr.add_zero'] at hx259_0)
   replace p259 := eq_true p259
   replace q259 := eq_true q259
   go_enter Tryz.func47, Tryz.ntmps47
   go_wp2
   go_loopg [3, 4] k (fun kq v3 v4 w' => ∃ (x3_1 : Int) (x4_1 : Int), v3 = .int .i64 x3_1 ∧ v4 = .int .i64 x4_1 ∧ Aside0 (slices_Max_int_int.l0 kq l0 x3_1 x4_1 = some r) ∧ Aside0 (kq ≤ k) ∧ Aside0 (Below w.heap.size w w'))
   case atStart => exact ⟨(rd l0 0), (1), (rs), (rs), H', ⟨Nat.le_refl _⟩, ⟨bw⟩⟩
   case round =>
    clear H'
    try clear c2
    try clear c2b0
    try clear c2b1
    try clear p2
    try clear q2
    try clear hx2
    try clear qi2
    try clear c3
    try clear c3b0
    try clear c3b1
    try clear hx259_0
    try clear p259
    try clear q259
    obtain ⟨x3_1, x4_1, rfl, rfl, HA, HK1, HB⟩ := hrel
    cases gk with
    | zero => exact absurd HA.out (by simp [slices_Max_int_int.l0])
    | succ k1 =>
     have H := HA.out
     clear HA
     simp only [slices_Max_int_int.l0] at H
     by_cases c4 : x4_1 < (l0.length : Int)
     ·rw [if_pos c4] at H
      have c4b0 : decide (x4_1 < (l0.length : Int)) = true := decide_eq_true c4
      clear c4
      by_cases c5 : 0 ≤ x4_1
      ·rw [if_pos c5] at H
       have c5b0 : decide (0 ≤ x4_1) = true := decide_eq_true c5
       clear c5
       obtain ⟨ji6, hji6⟩ : ∃ j_ : Int, (mx x3_1 (rd l0 x4_1)) = j_ := ⟨_, rfl⟩
       replace H : (slices_Max_int_int.l0 k1 l0 ji6 (wrap64 (x4_1 + 1))) = some r := by first | (rw [hji6] at H; exact H) | (simp only [hji6] at H ⊢; exact H)
       have hji6_ : (if x3_1 < (rd l0 x4_1) then (rd l0 x4_1) else x3_1) = ji6 := hji6
       have H' := Aside0.mk H
       clear H
       have p260 : 0 ≤ (x4_1 : Int) := of_decide_eq_true asm
       have q260 : x4_1 < (l0.length : Int) := of_decide_eq_true asm
       obtain ⟨ad260, e260, hx260_0⟩ := Kd.at_int HR0.out x4_1 p260 q260
       obtain rfl : ad259 = ad260 := (by injection e260)
       replace hx260_0 := (HB.out.cell (World.block_lt_of_cell? w _ hx260_0)).trans hx260_0
       replace p260 := eq_true p260
       replace q260 := eq_true q260
       go_wp2
       go_roundg k1
       case measure => have := HK1.out; omega
       case rel => exact ⟨(ji6), (wrap64 (x4_1 + 1)), (by first | rfl | (simp; done) | (simp only [← hji6] <;> (first | rfl | simp)) | (simp [*]; done)), (rs), H', ⟨by have := HK1.out; omega⟩, ⟨bw⟩⟩
      ·rw [if_neg c5] at H
       exact absurd H (by simp)
     ·rw [if_neg c4] at H
      have c4b0 : decide (x4_1 < (l0.length : Int)) = false := decide_eq_false c4
      clear c4
      obtain rfl := Option.some.inj H
      go_wp2
      go_ret
      exact ⟨rs, bw⟩
  ·rw [if_neg c3] at H
   exact absurd H (by simp)

/-! ### impl_TimeAllHear: function 8 -/
def impl_TimeAllHear.f (k : Nat) (a0 : Int) (l1 : List (S36)) : Option (Int × Bool) := (impl_areSignals.f k a0 l1).bind fun t261 => (if t261 = true then ((impl_heard.f k a0 l1).bind fun t262 => ((slices_Max_int_int.f k t262).bind fun t265 => (some (t265, true)))) else (some (0, false)))
theorem impl_TimeAllHear.mono : ∀ a0 a1 k, LeO (impl_TimeAllHear.f k a0 a1) (impl_TimeAllHear.f (k + 1) a0 a1) := by
  intro a0 a1 k
  unfold impl_TimeAllHear.f
  repeat' first
      | (with_reducible exact impl_areSignals.mono _ _ _)
      | (with_reducible exact impl_heard.mono _ _ _)
      | (with_reducible exact slices_Max_int_int.mono _ _)
      | (with_reducible exact LeO.refl _)
      | (with_reducible exact LeO.none _)
      | (with_reducible refine LeO.ite ?_ ?_)
      | (with_reducible refine LeO.bind ?_ (fun _ => ?_))
      | exact impl_areSignals.mono _ _ _
      | exact impl_heard.mono _ _ _
      | exact slices_Max_int_int.mono _ _
      | exact LeO.none _
      | refine LeO.ite ?_ ?_
      | refine LeO.bind ?_ (fun _ => ?_)
set_option maxHeartbeats 8000000 in
set_option maxRecDepth 100000 in
theorem impl_TimeAllHear.calls (k : Nat) (a0 : Int) (A1 : Option Addr) (c1 : Nat) (l1 : List (S36)) (r1 : Int) (r2 : Bool) (w : World) (hr1 : Kd.C k36 w A1 l1.length l1) (hc1 : l1.length ≤ c1) (h : impl_TimeAllHear.f k a0 l1 = some (r1, r2)) :
  Calls Tryz.prog 8 #[.int .i64 a0, .slice A1 l1.length c1] w fun e w' => e = .returned (.tuple #[.int .i64 r1, .bool r2]) ∧ Below w.heap.size w w' := by
 have HR1 := Aside0.mk hr1
 have HC1 := Aside0.mk hc1
 clear hr1 hc1
 have HB := Aside0.mk (Below.refl w.heap.size w)
 unfold impl_TimeAllHear.f at h
 have H := h
 clear h
 replace H := Option.bind_eq_some_iff.mp H
 obtain ⟨t261, A30, H⟩ := H
 (try dsimp only at H)
 have A3 := Aside0.mk A30
 clear A30
 by_cases c4 : t261 = true
 ·subst c4
  rw [if_pos rfl] at H
  replace H := Option.bind_eq_some_iff.mp H
  obtain ⟨t262, A50, H⟩ := H
  (try dsimp only at H)
  have A5 := Aside0.mk A50
  clear A50
  replace H := Option.bind_eq_some_iff.mp H
  obtain ⟨t265, A60, H⟩ := H
  (try dsimp only at H)
  have A6 := Aside0.mk A60
  clear A60
  simp only [Option.some.injEq, Prod.mk.injEq] at H
  obtain ⟨rfl, rfl⟩ := H
  go_enter Tryz.func8, Tryz.ntmps8
  go_wp2_with (first | ((with_reducible refine gate_callee (f := 40) rfl ?_); refine gl (some 8) Tryz.func40 #[.int .i64 a0, .slice A1 l1.length c1] ?_; (with_reducible refine (impl_areSignals.calls k a0 _ _ l1 true _ ?side1 ?side2 A3.out).mono ?_); (case side1 => exact cr HR1); (case side2 => exact HC1.out); rintro e w7 ⟨rfl, hb⟩; refine ⟨_, rfl, ?_⟩; replace HB := bs hb; (try clear hb)) | ((with_reducible refine gate_callee (f := 42) rfl ?_); refine gl (some 12) Tryz.func42 #[.int .i64 a0, .slice A1 l1.length c1] ?_; (with_reducible refine (impl_heard.calls k a0 _ _ l1 t262 _ ?side1 ?side2 A5.out).mono ?_); (case side1 => exact cb HR1); (case side2 => exact HC1.out); rintro e w8 ⟨v263, rfl, ho0, hb⟩; refine ⟨_, rfl, ?_⟩; have HO264 := Aside0.mk (Kd.R_lower ho0 (below_size bw)); replace HB := bs hb; (try clear hb); (try clear ho0); obtain ⟨Ao9, co9, eo9⟩ := Kd.R_slice HO264.out; subst eo9) | ((with_reducible refine gate_callee (f := 47) rfl ?_); refine gl (some 13) Tryz.func47 #[.slice Ao9 t262.length co9] ?_; (with_reducible refine (slices_Max_int_int.calls k _ _ t262 t265 _ ?side1 ?side2 A6.out).mono ?_); (case side1 => exact rr HO264); (case side2 => exact rn HO264); rintro e w10 ⟨rfl, hb⟩; refine ⟨_, rfl, ?_⟩; replace HO264 := rl HO264 hb; replace HB := bs hb; (try clear hb)))
  go_ret2
  exact ⟨rs, bw⟩
 ·replace c4 := Bool.eq_false_iff.mpr c4
  subst c4
  rw [if_neg (show ¬ (false = true) by decide)] at H
  simp only [Option.some.injEq, Prod.mk.injEq] at H
  obtain ⟨rfl, rfl⟩ := H
  go_enter Tryz.func8, Tryz.ntmps8
  go_wp2_with (first | ((with_reducible refine gate_callee (f := 40) rfl ?_); refine gl (some 8) Tryz.func40 #[.int .i64 a0, .slice A1 l1.length c1] ?_; (with_reducible refine (impl_areSignals.calls k a0 _ _ l1 false _ ?side1 ?side2 A3.out).mono ?_); (case side1 => exact cr HR1); (case side2 => exact HC1.out); rintro e w11 ⟨rfl, hb⟩; refine ⟨_, rfl, ?_⟩; replace HB := bs hb; (try clear hb)))
  go_ret2
  exact ⟨rs, bw⟩

/-! ### spec_TimeAllHear: function 9 -/
mutual
def spec_TimeAllHear.j0 : Nat → Int → List (S36) → Bool → Option (Int × Bool)
  | 0, _, _, _ => none
  | k + 1, x0, x1, x19 => if x19 = true then (some (0, false)) else (spec_TimeAllHear.l0 k x0 x1 0 0)
def spec_TimeAllHear.l0 : Nat → Int → List (S36) → Int → Int → Option (Int × Bool)
  | 0, _, _, _, _ => none
  | k + 1, x0, x1, x6, x7 => if x7 < x0 then (if 0 < (x1.length : Int) then ((spec_siFirst.f x0 ((rd_T36 x1 0).f0) ((rd_T36 x1 0).f1) ((rd_T36 x1 0).f2) x7).bind fun t269 => (spec_TimeAllHear.l1 k x0 x1 x6 x7 t269 x1 (x1.length : Int) 0)) else (none)) else (some (x6, true))
def spec_TimeAllHear.l1 : Nat → Int → List (S36) → Int → Int → Int → List (S36) → Int → Int → Option (Int × Bool)
  | 0, _, _, _, _, _, _, _, _ => none
  | k + 1, x0, x1, x6, x7, x8, x31, x32, x33 => if x33 < x32 then (if 0 ≤ x33 then (if x33 < (x31.length : Int) then ((spec_siFirst.f x0 ((rd_T36 x31 x33).f0) ((rd_T36 x31 x33).f1) ((rd_T36 x31 x33).f2) x7).bind fun t272 => ((spec_l1Least.f x8 t272).bind fun t273 => (spec_TimeAllHear.l1 k x0 x1 x6 x7 t273 x31 x32 (wrap64 (x33 + 1))))) else (none)) else (none)) else ((spec_l1Most.f x6 x8).bind fun t274 => (spec_TimeAllHear.l0 k x0 x1 t274 (wrap64 (x7 + 1))))
end
def spec_TimeAllHear.f (k : Nat) (a0 : Int) (l1 : List (S36)) : Option (Int × Bool) := (spec_siSoldiers.f a0).bind fun t266 => (if t266 = true then ((spec_siList.f k a0 l1).bind fun t267 => (spec_TimeAllHear.j0 k a0 l1 (!t267))) else (spec_TimeAllHear.j0 k a0 l1 true))
theorem spec_TimeAllHear.mono_l : ∀ k, (∀ y0 y1 y2, LeO (spec_TimeAllHear.j0 k y0 y1 y2) (spec_TimeAllHear.j0 (k + 1) y0 y1 y2)) ∧ (∀ y0 y1 y2 y3, LeO (spec_TimeAllHear.l0 k y0 y1 y2 y3) (spec_TimeAllHear.l0 (k + 1) y0 y1 y2 y3)) ∧ (∀ y0 y1 y2 y3 y4 y5 y6 y7, LeO (spec_TimeAllHear.l1 k y0 y1 y2 y3 y4 y5 y6 y7) (spec_TimeAllHear.l1 (k + 1) y0 y1 y2 y3 y4 y5 y6 y7))
  | 0 => ⟨fun _ _ _ r h => by simp [spec_TimeAllHear.j0] at h, fun _ _ _ _ r h => by simp [spec_TimeAllHear.l0] at h, fun _ _ _ _ _ _ _ _ r h => by simp [spec_TimeAllHear.l1] at h⟩
  | k + 1 => by
    obtain ⟨ih0, ih1, ih2⟩ := spec_TimeAllHear.mono_l k
    refine ⟨?q0, ?q1, ?q2⟩
    case' q0 => (intros; unfold spec_TimeAllHear.j0)
    case' q1 => (intros; unfold spec_TimeAllHear.l0)
    case' q2 => (intros; unfold spec_TimeAllHear.l1)
    all_goals repeat' first
     | (with_reducible exact ih0 _ _ _)
     | (with_reducible exact ih1 _ _ _ _)
     | (with_reducible exact ih2 _ _ _ _ _ _ _ _)
     | (with_reducible exact spec_siList.mono _ _ _)
     | (with_reducible exact LeO.refl _)
     | (with_reducible exact LeO.none _)
     | (with_reducible refine LeO.ite ?_ ?_)
     | (with_reducible refine LeO.bind ?_ (fun _ => ?_))
     | exact ih0 _ _ _
     | exact ih1 _ _ _ _
     | exact ih2 _ _ _ _ _ _ _ _
     | exact spec_siList.mono _ _ _
     | exact LeO.none _
     | refine LeO.ite ?_ ?_
     | refine LeO.bind ?_ (fun _ => ?_)
theorem spec_TimeAllHear.mono : ∀ a0 a1 k, LeO (spec_TimeAllHear.f k a0 a1) (spec_TimeAllHear.f (k + 1) a0 a1) := by
  intro a0 a1 k
  obtain ⟨ih0, ih1, ih2⟩ := spec_TimeAllHear.mono_l k
  unfold spec_TimeAllHear.f
  repeat' first
      | (with_reducible exact ih0 _ _ _)
      | (with_reducible exact ih1 _ _ _ _)
      | (with_reducible exact ih2 _ _ _ _ _ _ _ _)
      | (with_reducible exact spec_siList.mono _ _ _)
      | (with_reducible exact LeO.refl _)
      | (with_reducible exact LeO.none _)
      | (with_reducible refine LeO.ite ?_ ?_)
      | (with_reducible refine LeO.bind ?_ (fun _ => ?_))
      | exact ih0 _ _ _
      | exact ih1 _ _ _ _
      | exact ih2 _ _ _ _ _ _ _ _
      | exact spec_siList.mono _ _ _
      | exact LeO.none _
      | refine LeO.ite ?_ ?_
      | refine LeO.bind ?_ (fun _ => ?_)
set_option maxHeartbeats 8000000 in
set_option maxRecDepth 100000 in
theorem spec_TimeAllHear.calls (k : Nat) (a0 : Int) (A1 : Option Addr) (c1 : Nat) (l1 : List (S36)) (r1 : Int) (r2 : Bool) (w : World) (hr1 : Kd.C k36 w A1 l1.length l1) (hc1 : l1.length ≤ c1) (h : spec_TimeAllHear.f k a0 l1 = some (r1, r2)) :
  Calls Tryz.prog 9 #[.int .i64 a0, .slice A1 l1.length c1] w fun e w' => e = .returned (.tuple #[.int .i64 r1, .bool r2]) ∧ Below w.heap.size w w' := by
 have hu36 := Tryz.underlying36
 have HR1 := Aside0.mk hr1
 have HC1 := Aside0.mk hc1
 clear hr1 hc1
 have HB := Aside0.mk (Below.refl w.heap.size w)
 unfold spec_TimeAllHear.f at h
 have H := h
 clear h
 have HC3 := Aside0.mk H
 clear H
 go_enter Tryz.func9, Tryz.ntmps9
 go_upto_region 1 with (fail)
 go_cut [19] (fun v19 wc => ∃ (kq : Nat) (x19_2 : Bool), v19 = .bool x19_2 ∧ Aside0 (spec_TimeAllHear.j0 kq a0 l1 x19_2 = some (r1, r2)) ∧ Aside0 (kq ≤ k) ∧ Aside0 (Below w.heap.size w wc))
 case first =>
  have H := HC3.out
  clear HC3
  replace H := Option.bind_eq_some_iff.mp H
  obtain ⟨t266, A40, H⟩ := H
  (try dsimp only at H)
  have A4 := Aside0.mk A40
  clear A40
  by_cases c5 : t266 = true
  ·subst c5
   rw [if_pos rfl] at H
   replace H := Option.bind_eq_some_iff.mp H
   obtain ⟨t267, A60, H⟩ := H
   (try dsimp only at H)
   have A6 := Aside0.mk A60
   clear A60
   have H' := Aside0.mk H
   clear H
   go_wp2_with (first | ((with_reducible refine gate_callee (f := 43) rfl ?_); refine gl (some 12) Tryz.func43 #[.int .i64 a0] ?_; (with_reducible refine (spec_siSoldiers.calls a0 true _ A4.out).mono ?_); rintro e w' ⟨rfl, ⟨nd, rfl⟩⟩; refine ⟨_, rfl, ?_⟩) | (go_at_call 44; (with_reducible refine (spec_siList.calls k a0 _ _ l1 t267 _ ?side1 ?side2 A6.out).mono ?_); (case side1 => exact cb HR1); (case side2 => exact HC1.out); rintro e w7 ⟨rfl, hb⟩; replace HB := bs hb; (try clear hb)))
   go_meet
   case rel => exact ⟨_, (!t267), (rs), H', ⟨by first | omega | exact Nat.le_refl _⟩, ⟨bw⟩⟩
  ·replace c5 := Bool.eq_false_iff.mpr c5
   subst c5
   rw [if_neg (show ¬ (false = true) by decide)] at H
   have H' := Aside0.mk H
   clear H
   go_wp2_with (first | ((with_reducible refine gate_callee (f := 43) rfl ?_); refine gl (some 12) Tryz.func43 #[.int .i64 a0] ?_; (with_reducible refine (spec_siSoldiers.calls a0 false _ A4.out).mono ?_); rintro e w' ⟨rfl, ⟨nd, rfl⟩⟩; refine ⟨_, rfl, ?_⟩))
   go_meet
   case rel => exact ⟨_, (true), (rs), H', ⟨by first | omega | exact Nat.le_refl _⟩, ⟨bw⟩⟩
 case rest =>
  clear HC3
  try clear c1
  try clear p2
  try clear c4
  try clear c5
  obtain ⟨kq, x19_2, rfl, HA, HJ2, HB⟩ := hcut
  cases kq with
  | zero => exact absurd HA.out (by simp [spec_TimeAllHear.j0])
  | succ kj2 =>
   have H := HA.out
   clear HA
   simp only [spec_TimeAllHear.j0] at H
   by_cases c8 : x19_2 = true
   ·subst c8
    rw [if_pos rfl] at H
    simp only [Option.some.injEq, Prod.mk.injEq] at H
    obtain ⟨rfl, rfl⟩ := H
    go_wp2
    go_ret2
    exact ⟨rs, bw⟩
   ·replace c8 := Bool.eq_false_iff.mpr c8
    subst c8
    rw [if_neg (show ¬ (false = true) by decide)] at H
    have H' := Aside0.mk H
    clear H
    go_wp2
    go_loopg [6, 7] kj2 (fun kq v6 v7 w' => ∃ (x6_2 : Int) (x7_2 : Int), v6 = .int .i64 x6_2 ∧ v7 = .int .i64 x7_2 ∧ Aside0 (spec_TimeAllHear.l0 kq a0 l1 x6_2 x7_2 = some (r1, r2)) ∧ Aside0 (kq ≤ kj2) ∧ Aside0 (Below w.heap.size w w'))
    case atStart => exact ⟨(0), (0), (rs), (rs), H', ⟨Nat.le_refl _⟩, ⟨bw⟩⟩
    case round =>
     clear H'
     try clear c1
     try clear p2
     try clear c4
     try clear c5
     try clear c8
     try clear p2
     obtain ⟨x6_2, x7_2, rfl, rfl, HA, HK2, HB⟩ := hrel
     cases gk with
     | zero => exact absurd HA.out (by simp [spec_TimeAllHear.l0])
     | succ k2 =>
      have H := HA.out
      clear HA
      simp only [spec_TimeAllHear.l0] at H
      by_cases c9 : x7_2 < a0
      ·rw [if_pos c9] at H
       have c9b0 : decide (x7_2 < a0) = true := decide_eq_true c9
       clear c9
       by_cases c10 : 0 < (l1.length : Int)
       ·rw [if_pos c10] at H
        have c10b0 : decide (0 < (l1.length : Int)) = true := decide_eq_true c10
        have c10b1 : decide (0 < l1.length) = true := decide_eq_true (by omega)
        clear c10
        replace H := Option.bind_eq_some_iff.mp H
        obtain ⟨t269, A110, H⟩ := H
        (try dsimp only at H)
        have A11 := Aside0.mk A110
        clear A110
        have H' := Aside0.mk H
        clear H
        have p268 : 0 ≤ (0 : Int) := (by omega)
        have q268 : 0 < (l1.length : Int) := of_decide_eq_true asm
        obtain ⟨ad268, e268, hx268_0, hx268_1, hx268_2⟩ := at_T36 HR1.out 0 p268 q268
        cases e268
        have qi268 : (0 < l1.length) = True := eq_true (by omega)
        (try rw [show ((0 : Int)).toNat = 0 from rfl] at hx268_0)
        (try rw [show 0 * 3 = 0 from rfl] at hx268_0)
        (try rw [Addr.add_zero'] at hx268_0)
        (try rw [show ((0 : Int)).toNat = 0 from rfl] at hx268_1)
        (try rw [show 0 * 3 = 0 from rfl] at hx268_1)
        (try rw [Addr.add_zero'] at hx268_1)
        (try rw [show ((0 : Int)).toNat = 0 from rfl] at hx268_2)
        (try rw [show 0 * 3 = 0 from rfl] at hx268_2)
        (try rw [Addr.add_zero'] at hx268_2)
        replace hx268_0 := (HB.out.cell (World.block_lt_of_cell? w _ hx268_0)).trans hx268_0
        replace hx268_1 := (HB.out.cell (World.block_lt_of_cell? w _ hx268_1)).trans hx268_1
        replace hx268_2 := (HB.out.cell (World.block_lt_of_cell? w _ hx268_2)).trans hx268_2
        replace p268 := eq_true p268
        replace q268 := eq_true q268
        go_wp2_with (first | ((with_reducible refine gate_callee (f := 46) rfl ?_); refine gl (some 30) Tryz.func46 #[.int .i64 a0, .agg #[.int .i64 ((rd_T36 l1 0).f0), .bool ((rd_T36 l1 0).f1), .int .i64 ((rd_T36 l1 0).f2)], .int .i64 x7_2] ?_; (with_reducible refine (spec_siFirst.calls a0 ((rd_T36 l1 0).f0) ((rd_T36 l1 0).f1) ((rd_T36 l1 0).f2) x7_2 t269 _ A11.out).mono ?_); rintro e w12 ⟨rfl, hb⟩; refine ⟨_, rfl, ?_⟩; replace HB := bs hb; (try clear hb)))
        go_loopg [8, 33] k2 (fun kq v8 v33 w' => ∃ (x8_3 : Int) (x33_3 : Int), v8 = .int .i64 x8_3 ∧ v33 = .int .i64 x33_3 ∧ Aside0 (spec_TimeAllHear.l1 kq a0 l1 x6_2 x7_2 x8_3 l1 (l1.length : Int) x33_3 = some (r1, r2)) ∧ Aside0 (kq ≤ k2) ∧ Aside0 (Below w.heap.size w w'))
        case atStart => exact ⟨(t269), (0), (rs), (rs), H', ⟨Nat.le_refl _⟩, ⟨bw⟩⟩
        case round =>
         clear H'
         try clear c1
         try clear p2
         try clear q2
         try clear hx2
         try clear qi2
         try clear c4
         try clear c5
         try clear c8
         try clear c9
         try clear c9b0
         try clear c10
         try clear c10b0
         try clear c10b1
         try clear hx268_0
         try clear hx268_1
         try clear hx268_2
         try clear p2
         try clear p268
         try clear q268
         obtain ⟨x8_3, x33_3, rfl, rfl, HA, HK3, HB⟩ := hrel
         cases gk with
         | zero => exact absurd HA.out (by simp [spec_TimeAllHear.l1])
         | succ k3 =>
          have H := HA.out
          clear HA
          simp only [spec_TimeAllHear.l1] at H
          by_cases c13 : x33_3 < (l1.length : Int)
          ·rw [if_pos c13] at H
           have c13b0 : decide (x33_3 < (l1.length : Int)) = true := decide_eq_true c13
           clear c13
           by_cases c14 : 0 ≤ x33_3
           ·rw [if_pos c14] at H
            have c14b0 : decide (0 ≤ x33_3) = true := decide_eq_true c14
            clear c14
            by_cases c15 : x33_3 < (l1.length : Int)
            ·rw [if_pos c15] at H
             have c15b0 : decide (x33_3 < (l1.length : Int)) = true := decide_eq_true c15
             clear c15
             replace H := Option.bind_eq_some_iff.mp H
             obtain ⟨t272, A160, H⟩ := H
             (try dsimp only at H)
             have A16 := Aside0.mk A160
             clear A160
             replace H := Option.bind_eq_some_iff.mp H
             obtain ⟨t273, A170, H⟩ := H
             (try dsimp only at H)
             have A17 := Aside0.mk A170
             clear A170
             have H' := Aside0.mk H
             clear H
             have p270 : 0 ≤ (x33_3 : Int) := of_decide_eq_true asm
             have q270 : x33_3 < (l1.length : Int) := of_decide_eq_true asm
             obtain ⟨ad270, e270, hx270_0, hx270_1, hx270_2⟩ := at_T36 HR1.out x33_3 p270 q270
             obtain rfl : ad268 = ad270 := (by injection e270)
             replace hx270_0 := (HB.out.cell (World.block_lt_of_cell? w _ hx270_0)).trans hx270_0
             replace hx270_1 := (HB.out.cell (World.block_lt_of_cell? w _ hx270_1)).trans hx270_1
             replace hx270_2 := (HB.out.cell (World.block_lt_of_cell? w _ hx270_2)).trans hx270_2
             replace p270 := eq_true p270
             replace q270 := eq_true q270
             go_wp2_with (first | ((with_reducible refine gate_dst (N := 10) rfl ?_); refine bx 10 36 #[.int .i64 0, .bool false, .int .i64 0] ?_; intro gb271 hg w18 hbox hb; have BK271 := hbox; have GW271 := gs hg; have GE271 := gs hg; replace HB := bs hb; clear hb hbox hg; have hcz19_0 := bc BK271 0 (.int .i64 0); have hcz19_1 := bc BK271 1 (.bool false); have hcz19_2 := bc BK271 2 (.int .i64 0); have hfz19_0 := blk_frozen BK271.out 0; have hfz19_1 := blk_frozen BK271.out 1; have hfz19_2 := blk_frozen BK271.out 2) | ((with_reducible refine gate_callee (f := 46) rfl ?_); refine gl (some 41) Tryz.func46 #[.int .i64 a0, .agg #[.int .i64 ((rd_T36 l1 x33_3).f0), .bool ((rd_T36 l1 x33_3).f1), .int .i64 ((rd_T36 l1 x33_3).f2)], .int .i64 x7_2] ?_; (with_reducible refine (spec_siFirst.calls a0 ((rd_T36 l1 x33_3).f0) ((rd_T36 l1 x33_3).f1) ((rd_T36 l1 x33_3).f2) x7_2 t272 _ A16.out).mono ?_); rintro e w20 ⟨rfl, hb⟩; refine ⟨_, rfl, ?_⟩; replace BK271 := Aside0.mk (blk_below (g := gb271) (o := .cells #[.int .i64 ((rd_T36 l1 x33_3).f0), .bool ((rd_T36 l1 x33_3).f1), .int .i64 ((rd_T36 l1 x33_3).f2)] 36 (0, 0)) (by (with_reducible repeat (first | refine blk_drewN ?_ _ | refine blk_drew ?_ | refine blk_alloc ?_ _)); refine blk_put (cs := #[.int .i64 ((rd_T36 l1 x33_3).f0), .bool ((rd_T36 l1 x33_3).f1), .int .i64 0]) ?_ 2 _ rfl; (with_reducible repeat (first | refine blk_drewN ?_ _ | refine blk_drew ?_ | refine blk_alloc ?_ _)); refine blk_put (cs := #[.int .i64 ((rd_T36 l1 x33_3).f0), .bool false, .int .i64 0]) ?_ 1 _ rfl; (with_reducible repeat (first | refine blk_drewN ?_ _ | refine blk_drew ?_ | refine blk_alloc ?_ _)); refine blk_put (cs := #[.int .i64 0, .bool false, .int .i64 0]) ?_ 0 _ rfl; (with_reducible repeat (first | refine blk_drewN ?_ _ | refine blk_drew ?_ | refine blk_alloc ?_ _)); exact BK271.out) hb); replace HB := bs hb; (try clear hb)) | ((with_reducible refine gate_callee (f := 48) rfl ?_); refine gl (some 42) Tryz.func48 #[.int .i64 x8_3, .int .i64 t272] ?_; (with_reducible refine (spec_l1Least.calls x8_3 t272 t273 _ A17.out).mono ?_); rintro e w' ⟨rfl, ⟨nd, rfl⟩⟩; refine ⟨_, rfl, ?_⟩))
             go_roundg k3
             case measure => have := HJ2.out; have := HK2.out; have := HK3.out; omega
             case rel => exact ⟨(t273), (wrap64 (x33_3 + 1)), (rs), (rs), H', ⟨by have := HJ2.out; have := HK2.out; have := HK3.out; omega⟩, ⟨bw⟩⟩
            ·rw [if_neg c15] at H
             exact absurd H (by simp)
           ·rw [if_neg c14] at H
            exact absurd H (by simp)
          ·rw [if_neg c13] at H
           have c13b0 : decide (x33_3 < (l1.length : Int)) = false := decide_eq_false c13
           clear c13
           replace H := Option.bind_eq_some_iff.mp H
           obtain ⟨t274, A210, H⟩ := H
           (try dsimp only at H)
           have A21 := Aside0.mk A210
           clear A210
           have H' := Aside0.mk H
           clear H
           go_wp2_with (first | ((with_reducible refine gate_callee (f := 49) rfl ?_); refine gl (some 46) Tryz.func49 #[.int .i64 x6_2, .int .i64 x8_3] ?_; (with_reducible refine (spec_l1Most.calls x6_2 x8_3 t274 _ A21.out).mono ?_); rintro e w' ⟨rfl, ⟨nd, rfl⟩⟩; refine ⟨_, rfl, ?_⟩))
           go_roundg k3
           case measure => have := HJ2.out; have := HK2.out; have := HK3.out; omega
           case rel => exact ⟨(t274), (wrap64 (x7_2 + 1)), (rs), (rs), H', ⟨by have := HJ2.out; have := HK2.out; have := HK3.out; omega⟩, ⟨bw⟩⟩
       ·rw [if_neg c10] at H
        exact absurd H (by simp)
      ·rw [if_neg c9] at H
       have c9b0 : decide (x7_2 < a0) = false := decide_eq_false c9
       clear c9
       simp only [Option.some.injEq, Prod.mk.injEq] at H
       obtain ⟨rfl, rfl⟩ := H
       go_wp2
       go_ret2
       exact ⟨rs, bw⟩

end Go.Proofs.YtmhbcfdodcnjmaaGreatDoor.PFnSignalsReach
