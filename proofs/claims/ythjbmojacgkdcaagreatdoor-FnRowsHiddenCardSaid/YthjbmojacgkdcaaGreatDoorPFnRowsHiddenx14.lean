-- Laid by xprint, a program of this session that runs over the kit's print.
import Derived.Test.YthjbmojacgkdcaaGreatDoorPFnRowsHiddenx13
namespace Go.Proofs.YthjbmojacgkdcaaGreatDoor.PFnRowsHidden
open Go.RowKit Go.Proofs.YthjbmojacgkdcaaGreatDoorW.PrintWords Go.Proofs.YthjbmojacgkdcaaGreatDoorW.PrintLast Go.Proofs.YthjbmojacgkdcaaGreatDoorW.PrintMore Go.Proofs.YthjbmojacgkdcaaGreatDoor.Sq
attribute [local go_sem] max2_int min2_int max_two min_two max_three min_three max_four min_four   -- for this text's walks alone
set_option linter.unusedVariables false
set_option linter.unusedSimpArgs false

/-! ### spec_pzAll: function 82 -/
mutual
def spec_pzAll.l0 : Nat → Int → List (S37) → List ByteArray → Int → Option (List ByteArray)
  | 0, _, _, _, _ => none
  | k + 1, x0, x1, x5, x6 => if 0 ≤ x0 then (if x6 < (shl .i64 1 x0) then ((spec_rwMake.f k x0 x6).bind fun t433 => (spec_pzAll.l1 k x0 x1 x5 x6 t433 true x1 (x1.length : Int) 0)) else (some x5)) else (none)
def spec_pzAll.l1 : Nat → Int → List (S37) → List ByteArray → Int → ByteArray → Bool → List (S37) → Int → Int → Option (List ByteArray)
  | 0, _, _, _, _, _, _, _, _, _ => none
  | k + 1, x0, x1, x5, x6, x7, x8, x20, x21, x22 => if x22 < x21 then (if 0 ≤ x22 then (if x22 < (x20.length : Int) then (if x8 = true then ((spec_pzFits.f k ((rd_T37 x20 x22).f0) ((rd_T37 x20 x22).f1) ((rd_T37 x20 x22).f2) ((rd_T37 x20 x22).f3) x7).bind fun t436 => (spec_pzAll.l1 k x0 x1 x5 x6 x7 t436 x20 x21 (wrap64 (x22 + 1)))) else (spec_pzAll.l1 k x0 x1 x5 x6 x7 false x20 x21 (wrap64 (x22 + 1)))) else (none)) else (none)) else (if x8 = true then (if x5.length < 8796093022208 then (spec_pzAll.l0 k x0 x1 (x5 ++ [x7]) (wrap64 (x6 + 1))) else (none)) else (spec_pzAll.l0 k x0 x1 x5 (wrap64 (x6 + 1))))
end
def spec_pzAll.f (k : Nat) (a0 : Int) (l1 : List (S37)) : Option (List ByteArray) := spec_pzAll.l0 k a0 l1 ([] : List ByteArray) 0
theorem spec_pzAll.mono_l : ∀ k, (∀ y0 y1 y2 y3, LeO (spec_pzAll.l0 k y0 y1 y2 y3) (spec_pzAll.l0 (k + 1) y0 y1 y2 y3)) ∧ (∀ y0 y1 y2 y3 y4 y5 y6 y7 y8, LeO (spec_pzAll.l1 k y0 y1 y2 y3 y4 y5 y6 y7 y8) (spec_pzAll.l1 (k + 1) y0 y1 y2 y3 y4 y5 y6 y7 y8))
  | 0 => ⟨fun _ _ _ _ r h => by simp [spec_pzAll.l0] at h, fun _ _ _ _ _ _ _ _ _ r h => by simp [spec_pzAll.l1] at h⟩
  | k + 1 => by
    obtain ⟨ih0, ih1⟩ := spec_pzAll.mono_l k
    refine ⟨?q0, ?q1⟩
    case' q0 => (intros; unfold spec_pzAll.l0)
    case' q1 => (intros; unfold spec_pzAll.l1)
    all_goals repeat' first
     | (with_reducible exact ih0 _ _ _ _)
     | (with_reducible exact ih1 _ _ _ _ _ _ _ _ _)
     | (with_reducible exact spec_pzFits.mono _ _ _ _ _ _)
     | (with_reducible exact spec_rwMake.mono _ _ _)
     | (with_reducible exact LeO.refl _)
     | (with_reducible exact LeO.none _)
     | (with_reducible refine LeO.ite ?_ ?_)
     | (with_reducible refine LeO.bind ?_ (fun _ => ?_))
     | exact ih0 _ _ _ _
     | exact ih1 _ _ _ _ _ _ _ _ _
     | exact spec_pzFits.mono _ _ _ _ _ _
     | exact spec_rwMake.mono _ _ _
     | exact LeO.none _
     | refine LeO.ite ?_ ?_
     | refine LeO.bind ?_ (fun _ => ?_)
theorem spec_pzAll.mono : ∀ a0 a1 k, LeO (spec_pzAll.f k a0 a1) (spec_pzAll.f (k + 1) a0 a1) := by
  intro a0 a1 k
  obtain ⟨ih0, ih1⟩ := spec_pzAll.mono_l k
  unfold spec_pzAll.f
  repeat' first
      | (with_reducible exact ih0 _ _ _ _)
      | (with_reducible exact ih1 _ _ _ _ _ _ _ _ _)
      | (with_reducible exact spec_pzFits.mono _ _ _ _ _ _)
      | (with_reducible exact spec_rwMake.mono _ _ _)
      | (with_reducible exact LeO.refl _)
      | (with_reducible exact LeO.none _)
      | (with_reducible refine LeO.ite ?_ ?_)
      | (with_reducible refine LeO.bind ?_ (fun _ => ?_))
      | exact ih0 _ _ _ _
      | exact ih1 _ _ _ _ _ _ _ _ _
      | exact spec_pzFits.mono _ _ _ _ _ _
      | exact spec_rwMake.mono _ _ _
      | exact LeO.none _
      | refine LeO.ite ?_ ?_
      | refine LeO.bind ?_ (fun _ => ?_)
set_option maxHeartbeats 8000000 in
set_option maxRecDepth 100000 in
theorem spec_pzAll.calls (k : Nat) (a0 : Int) (A1 : Option Addr) (c1 : Nat) (l1 : List (S37)) (r : List ByteArray) (w : World) (hr1 : Kd.C k37 w A1 l1.length l1) (hc1 : l1.length ≤ c1) (h : spec_pzAll.f k a0 l1 = some r) :
  Calls Tryz.prog 82 #[.int .i64 a0, .slice A1 l1.length c1] w fun e w' => ∃ v0_ : Value, e = .returned (v0_) ∧ Kd.R Kd.string 9 w' w.heap.size (fun _ => True) v0_ r ∧ Below w.heap.size w w' := by
 have hu37 := Tryz.underlying37
 have HR1 := Aside0.mk hr1
 have HC1 := Aside0.mk hc1
 clear hr1 hc1
 have HB := Aside0.mk (Below.refl w.heap.size w)
 unfold spec_pzAll.f at h
 have H := h
 clear h
 have H' := Aside0.mk H
 clear H
 go_enter Tryz.func82, Tryz.ntmps82
 go_wp2
 go_loopg [5, 6] k (fun kq v5 v6 w' => ∃ (x5_1 : List ByteArray) (x6_1 : Int), v6 = .int .i64 x6_1 ∧ Aside0 (spec_pzAll.l0 kq a0 l1 x5_1 x6_1 = some r) ∧ Aside0 (kq ≤ k) ∧ Aside0 (Kd.R Kd.string 9 w' w.heap.size (fun _ => True) v5 x5_1) ∧ Aside0 (Below w.heap.size w w'))
 case atStart => exact ⟨(([] : List ByteArray)), (0), (rs), H', ⟨Nat.le_refl _⟩, ⟨by first | exact Kd.R_nil _ _ _ _ _ | exact Kd.N_nil _ _ _ _ _ | exact Kd.V_nil _ _ _ _ _ | exact Kd.Q_nil _ _ _ _ _ | exact Kd.S_nil _ _ _ _ _⟩, ⟨bw⟩⟩
 case round =>
  clear H'
  try clear c1
  try clear p2
  obtain ⟨x5_1, x6_1, rfl, HA, HK1, HO_5, HB⟩ := hrel
  cases gk with
  | zero => exact absurd HA.out (by simp [spec_pzAll.l0])
  | succ k1 =>
   have H := HA.out
   clear HA
   simp only [spec_pzAll.l0] at H
   obtain ⟨c3, H⟩ := oi H
   have c3b0 := eq_true c3
   have c3b1 := decide_eq_true c3
   clear c3
   obtain ⟨ji4, hji4⟩ : ∃ j_ : Int, (shl .i64 1 a0) = j_ := ⟨_, rfl⟩
   replace H : (if x6_1 < (ji4) then ((spec_rwMake.f k1 a0 x6_1).bind fun t433 => (spec_pzAll.l1 k1 a0 l1 x5_1 x6_1 t433 true l1 (l1.length : Int) 0)) else (some x5_1)) = some r := by first | (rw [hji4] at H; exact H) | (simp only [hji4] at H ⊢; exact H)
   have hji4_ : (IntKind.i64.wrap (1 * 2 ^ min a0.toNat 64)) = ji4 := hji4
   have hji4z : a0 ≤ 64 → (IntKind.i64.wrap (1 * 2 ^ a0.toNat)) = ji4 := shl_small hji4
   have hji4u : (IntKind.i64.wrap (2 ^ min a0.toNat 64)) = ji4 := by have h_ := hji4_; rw [Int.one_mul] at h_; exact h_
   have hji4v : a0 ≤ 64 → (IntKind.i64.wrap (2 ^ a0.toNat)) = ji4 := fun hle_ => by have h_ := hji4z hle_; rw [Int.one_mul] at h_; exact h_
   have hji4y : (wrap64 (1 * 2 ^ min a0.toNat 64)) = ji4 := (i64_w _).symm.trans hji4_
   have hji4x : a0 ≤ 64 → (wrap64 (1 * 2 ^ a0.toNat)) = ji4 := fun h_ => (i64_w _).symm.trans (hji4z h_)
   by_cases c5 : x6_1 < (ji4)
   ·rw [if_pos c5] at H
    have c5b0 := decide_eq_true c5
    clear c5
    obtain ⟨t433, A6, H⟩ := ob H
    (try dsimp only at H)
    have H' := Aside0.mk H
    clear H
    go_wp2_with (first | ((with_reducible refine gc 57 ?_); refine gl (some 19) Tryz.func57 #[.int .i64 a0, .int .i64 x6_1] ?_; (with_reducible refine (spec_rwMake.calls k1 a0 x6_1 t433 _ A6.out).mono ?_); rintro e w' ⟨rfl, ⟨nd, rfl⟩⟩; refine ⟨_, rfl, ?_⟩))
    go_loopg [8, 22] k1 (fun kq v8 v22 w' => ∃ (x8_2 : Bool) (x22_2 : Int), v8 = .bool x8_2 ∧ v22 = .int .i64 x22_2 ∧ Aside0 (spec_pzAll.l1 kq a0 l1 x5_1 x6_1 t433 x8_2 l1 (l1.length : Int) x22_2 = some r) ∧ Aside0 (kq ≤ k1) ∧ Aside0 (Kd.R Kd.string 9 w' w.heap.size (fun _ => True) u5 x5_1) ∧ Aside0 (Below w.heap.size w w'))
    case atStart => exact ⟨(true), (0), (rs), (rs), H', ⟨Nat.le_refl _⟩, ⟨pr HO_5⟩, ⟨bw⟩⟩
    case round =>
     clear H'
     try clear c1
     try clear p2
     try clear c3
     try clear c3b0
     try clear c3b1
     try clear c5
     try clear c5b0
     try clear p6
     try clear p2
     obtain ⟨x8_2, x22_2, rfl, rfl, HA, HK2, HO_5, HB⟩ := hrel
     cases gk with
     | zero => exact absurd HA.out (by simp [spec_pzAll.l1])
     | succ k2 =>
      have H := HA.out
      clear HA
      simp only [spec_pzAll.l1] at H
      by_cases c7 : x22_2 < (l1.length : Int)
      ·rw [if_pos c7] at H
       have c7b0 := decide_eq_true c7
       clear c7
       obtain ⟨c8, H⟩ := oi H
       have c8b0 := decide_eq_true c8
       clear c8
       obtain ⟨c9, H⟩ := oi H
       have c9b0 := decide_eq_true c9
       clear c9
       by_cases c10 : x8_2 = true
       ·subst c10
        rw [if_pos rfl] at H
        obtain ⟨t436, A11, H⟩ := ob H
        (try dsimp only at H)
        have H' := Aside0.mk H
        clear H
        have p434 : 0 ≤ (x22_2 : Int) := of_decide_eq_true asm
        have q434 : x22_2 < (l1.length : Int) := of_decide_eq_true asm
        obtain ⟨ad434, e434, hx434_0, hx434_1, hx434_2, hx434_3⟩ := at_T37 HR1.out x22_2 p434 q434
        cases e434
        replace hx434_0 := (HB.out.cell (World.block_lt_of_cell? w _ hx434_0)).trans hx434_0
        replace hx434_1 := (HB.out.cell (World.block_lt_of_cell? w _ hx434_1)).trans hx434_1
        replace hx434_2 := (HB.out.cell (World.block_lt_of_cell? w _ hx434_2)).trans hx434_2
        replace hx434_3 := (HB.out.cell (World.block_lt_of_cell? w _ hx434_3)).trans hx434_3
        replace p434 := eq_true p434
        replace q434 := eq_true q434
        go_wp2_with (first | ((with_reducible refine gd 10 ?_); refine bx 10 37 #[.int .i64 0, .int .i64 0, .int .i64 0, .int .i64 0] ?_; intro gb435 hg w12 hbox hb; replace HO_5 := rl HO_5 hb; have BK435 := hbox; have GW435 := gs hg; have GE435 := gs hg; replace HB := bs hb; clear hb hbox hg; have hz13 := z4 BK435) | (go_at_call 66; (with_reducible refine (spec_pzFits.calls k2 ((rd_T37 l1 x22_2).f0) ((rd_T37 l1 x22_2).f1) ((rd_T37 l1 x22_2).f2) ((rd_T37 l1 x22_2).f3) t433 t436 _ A11.out).mono ?_); rintro e w14 ⟨rfl, hb⟩; replace HO_5 := Aside0.mk (Kd.R_below (by (with_reducible repeat (first | apply Kd.R_alloc | apply Kd.R_drewN | apply Kd.R_drew)); exact (Kd.R_mono (Kd.R_far (p := ⟨gb435, 3, none⟩) (Kd.R_far (p := ⟨gb435, 2, none⟩) (Kd.R_far (p := ⟨gb435, 1, none⟩) (Kd.R_far (p := ⟨gb435, 0, none⟩) (Kd.R_types HO_5.out BK435.out (by decide)) (fun _ hk => hk.2) (.int .i64 ((rd_T37 l1 x22_2).f0))) (fun _ hk => hk.2) (.int .i64 ((rd_T37 l1 x22_2).f1))) (fun _ hk => hk.2) (.int .i64 ((rd_T37 l1 x22_2).f2))) (fun _ hk => hk.2) (.int .i64 ((rd_T37 l1 x22_2).f3))) (fun _ h_ => h_.1))) hb); replace BK435 := Aside0.mk (blk_below (g := gb435) (o := .cells #[.int .i64 ((rd_T37 l1 x22_2).f0), .int .i64 ((rd_T37 l1 x22_2).f1), .int .i64 ((rd_T37 l1 x22_2).f2), .int .i64 ((rd_T37 l1 x22_2).f3)] 37 (0, 0)) (pz BK435) hb); replace HB := bs hb; (try clear hb)))
        go_roundg k2
        case measure => have := HK1.out; have := HK2.out; omega
        case rel => exact ⟨(t436), (wrap64 (x22_2 + 1)), (rs), (rs), H', ⟨by have := HK1.out; have := HK2.out; omega⟩, ⟨pr HO_5⟩, ⟨bw⟩⟩
       replace c10 := Bool.eq_false_iff.mpr c10
       subst c10
       rw [if_neg (show ¬ (false = true) by decide)] at H
       have H' := Aside0.mk H
       clear H
       have p434 : 0 ≤ (x22_2 : Int) := of_decide_eq_true asm
       have q434 : x22_2 < (l1.length : Int) := of_decide_eq_true asm
       obtain ⟨ad434, e434, hx434_0, hx434_1, hx434_2, hx434_3⟩ := at_T37 HR1.out x22_2 p434 q434
       cases e434
       replace hx434_0 := (HB.out.cell (World.block_lt_of_cell? w _ hx434_0)).trans hx434_0
       replace hx434_1 := (HB.out.cell (World.block_lt_of_cell? w _ hx434_1)).trans hx434_1
       replace hx434_2 := (HB.out.cell (World.block_lt_of_cell? w _ hx434_2)).trans hx434_2
       replace hx434_3 := (HB.out.cell (World.block_lt_of_cell? w _ hx434_3)).trans hx434_3
       replace p434 := eq_true p434
       replace q434 := eq_true q434
       go_wp2_with (first | ((with_reducible refine gd 10 ?_); refine bx 10 37 #[.int .i64 0, .int .i64 0, .int .i64 0, .int .i64 0] ?_; intro gb435 hg w15 hbox hb; replace HO_5 := rl HO_5 hb; have BK435 := hbox; have GW435 := gs hg; have GE435 := gs hg; replace HB := bs hb; clear hb hbox hg; have hz16 := z4 BK435))
       go_roundg k2
       case measure => have := HK1.out; have := HK2.out; omega
       case rel => exact ⟨(false), (wrap64 (x22_2 + 1)), (rs), (rs), H', ⟨by have := HK1.out; have := HK2.out; omega⟩, ⟨by (with_reducible repeat (first | apply Kd.R_alloc | apply Kd.R_drewN | apply Kd.R_drew)); exact Kd.R_mono (Kd.R_far (p := ⟨gb435, 3, none⟩) (Kd.R_far (p := ⟨gb435, 2, none⟩) (Kd.R_far (p := ⟨gb435, 1, none⟩) (Kd.R_far (p := ⟨gb435, 0, none⟩) (Kd.R_types HO_5.out BK435.out (by decide)) (fun _ hk => hk.2) (.int .i64 ((rd_T37 l1 x22_2).f0))) (fun _ hk => hk.2) (.int .i64 ((rd_T37 l1 x22_2).f1))) (fun _ hk => hk.2) (.int .i64 ((rd_T37 l1 x22_2).f2))) (fun _ hk => hk.2) (.int .i64 ((rd_T37 l1 x22_2).f3))) (fun _ hk => trivial)⟩, ⟨bw⟩⟩
      rw [if_neg c7] at H
      have c7b0 := decide_eq_false c7
      clear c7
      by_cases c17 : x8_2 = true
      ·subst c17
       rw [if_pos rfl] at H
       obtain ⟨c18, H⟩ := oi H
       have LMc18 := Aside0.mk c18
       clear c18
       obtain ⟨y437, hy437⟩ : ∃ y_ : List ByteArray, y_ = (x5_1 ++ [t433]) := ⟨_, rfl⟩
       replace H : (spec_pzAll.l0 k2 a0 l1 y437 (wrap64 (x6_1 + 1))) = some r := by first | (rw [hy437]; with_reducible exact H) | (have H2_ := (Option.bind_some _ _).symm.trans H; rw [hy437]; with_reducible exact H2_) | (have H2_ := (Option.bind_some _ _).symm.trans H; with_reducible exact H2_) | with_reducible exact H | (rw [hy437]; exact H) | exact H
       have Ny437 := Aside0.mk hy437
       clear hy437
       have H' := Aside0.mk H
       clear H
       go_wp2_with (first | ((with_reducible refine gate_builtin (b := .append) (xs := #[.tmp 34, .tmp 36]) rfl ?_); at_builtin; refine Kd.R_append Kd.string (w0 := w) w.heap.size rfl (.tmp 34) (.tmp 36) 47 9 (.string ⟨#[]⟩) 16 rfl Tryz.underlying47 info9 rfl (by decide) (by omega) u5 x5_1 t433 [.string t433] (fun _ => True) (fun _ => False) rfl rfl ?aP (fun _ hk => hk.elim) ?aF ?aO ?aB ?aS ?aL ?_; (case aP => exact rfl); (case aB => exact bw); (case aF => exact (fun _ _ => trivial)); (case aO => exact (pr HO_5)); (case aS => exact (below_size bw)); (case aL => have := LMc18.out; omega); intro v438 w19 ho hb hg hat; rw [← Ny437.out] at ho; have n0_ := Aside0.mk (hb); have n1_ := Aside0.mk (ho); clear HB; clear HO_5; have HB := n0_; have HO439 := n1_; clear n0_ n1_; clear ho hb hg hat))
       go_roundg k2
       case measure => have := HK1.out; have := HK2.out; omega
       case rel => exact ⟨(y437), (wrap64 (x6_1 + 1)), (rs), H', ⟨by have := HK1.out; have := HK2.out; omega⟩, ⟨pr HO439⟩, ⟨bw⟩⟩
      replace c17 := Bool.eq_false_iff.mpr c17
      subst c17
      rw [if_neg (show ¬ (false = true) by decide)] at H
      have H' := Aside0.mk H
      clear H
      go_wp2
      go_roundg k2
      case measure => have := HK1.out; have := HK2.out; omega
      case rel => exact ⟨(x5_1), (wrap64 (x6_1 + 1)), (rs), H', ⟨by have := HK1.out; have := HK2.out; omega⟩, ⟨pr HO_5⟩, ⟨bw⟩⟩
   rw [if_neg c5] at H
   have c5b0 := decide_eq_false c5
   clear c5
   obtain rfl := Option.some.inj H
   go_wp2
   go_ret
   exact ⟨_, by first | rfl | (simp [errW_none, errW_some] <;> rfl) | (simp only [← hji4]; first | rfl | (simp [errW_none, errW_some] <;> rfl)) | (simp [*, errW_none, errW_some] <;> rfl), pr HO_5, bw⟩
/-! ### spec_pzSolved: function 62 -/
def spec_pzSolved.f (k : Nat) (a0 : Int) (l1 : List (S37)) : Option (Bool) := (spec_pzAll.f k a0 l1).bind fun t440 => (some ((t440.length : Int) == 1))
theorem spec_pzSolved.mono : ∀ a0 a1 k, LeO (spec_pzSolved.f k a0 a1) (spec_pzSolved.f (k + 1) a0 a1) := by
  intro a0 a1 k
  unfold spec_pzSolved.f
  repeat' first
      | (with_reducible exact spec_pzAll.mono _ _ _)
      | (with_reducible exact LeO.refl _)
      | (with_reducible exact LeO.none _)
      | (with_reducible refine LeO.ite ?_ ?_)
      | (with_reducible refine LeO.bind ?_ (fun _ => ?_))
      | exact spec_pzAll.mono _ _ _
      | exact LeO.none _
      | refine LeO.ite ?_ ?_
      | refine LeO.bind ?_ (fun _ => ?_)
set_option maxHeartbeats 8000000 in
set_option maxRecDepth 100000 in
theorem spec_pzSolved.calls (k : Nat) (a0 : Int) (A1 : Option Addr) (c1 : Nat) (l1 : List (S37)) (r : Bool) (w : World) (hr1 : Kd.C k37 w A1 l1.length l1) (hc1 : l1.length ≤ c1) (h : spec_pzSolved.f k a0 l1 = some r) :
  Calls Tryz.prog 62 #[.int .i64 a0, .slice A1 l1.length c1] w fun e w' => e = .returned (.bool r) ∧ Below w.heap.size w w' := by
 have HR1 := Aside0.mk hr1
 have HC1 := Aside0.mk hc1
 clear hr1 hc1
 have HB := Aside0.mk (Below.refl w.heap.size w)
 unfold spec_pzSolved.f at h
 have H := h
 clear h
 obtain ⟨t440, A3, H⟩ := ob H
 (try dsimp only at H)
 obtain rfl := Option.some.inj H
 go_enter Tryz.func62, Tryz.ntmps62
 go_wp2_with (first | ((with_reducible refine gc 82 ?_); refine gl (some 7) Tryz.func82 #[.int .i64 a0, .slice A1 l1.length c1] ?_; (with_reducible refine (spec_pzAll.calls k a0 _ _ l1 t440 _ ?_ ?_ A3.out).mono ?_); exact cr HR1; exact HC1.out; rintro e w4 ⟨v441, rfl, ho0, hb⟩; refine ⟨_, rfl, ?_⟩; have HO442 := Aside0.mk (Kd.R_lower ho0 (below_size bw)); replace HB := bs hb; (try clear hb); (try clear ho0); obtain ⟨Ao5, co5, eo5⟩ := Kd.R_slice HO442.out; subst eo5))
 go_ret
 exact ⟨rs, bw⟩

/-! ### spec_pzWithout: function 63 -/
def spec_pzWithout.f (l0 : List (S37)) (a1 : Int) : Option ((List (S37))) := (some (([] : List (S37)) : List (S37))).bind fun y443 => (if 0 ≤ a1 then (if a1 ≤ (l0.length : Int) then ((some (l0.take (a1 : Int).toNat : List (S37))).bind fun y446 => (if y443.length + y446.length < 4398046511104 then ((some (y443 ++ y446 : List (S37))).bind fun y450 => (if 0 ≤ (wrap64 (a1 + 1)) then (if (wrap64 (a1 + 1)) ≤ (l0.length : Int) then ((some (l0.drop ((wrap64 (a1 + 1)) : Int).toNat : List (S37))).bind fun y453 => (if y450.length + y453.length < 4398046511104 then (some (y450 ++ y453)) else (none))) else (none)) else (none))) else (none))) else (none)) else (none))
def spec_pzWithout.T1 : Bool × List (List Nat × List Nat) := (true, [([], []), ([], []), ([], []), ([1, 2], [1, 2]), ([0, 3], [0, 3]), ([], []), ([], []), ([6], [6]), ([5, 7], [5, 7]), ([4, 8, 4], [4, 8]), ([9, 9, 0, 1, 2, 3, 4, 5, 6, 7, 8, 9], [9])])
def spec_pzWithout.B1 : List Nat := [0, 0, 0, 6, 15, 0, 0, 64, 224, 511, 1023]
theorem spec_pzWithout.tab1 : rtab .any (opsOf Tryz.f63 1) = spec_pzWithout.T1 := by kernel_rfl
theorem spec_pzWithout.bits1 : waitsOk spec_pzWithout.T1.2 spec_pzWithout.B1 = true := by kernel_rfl
set_option maxHeartbeats 8000000 in
set_option maxRecDepth 100000 in
theorem spec_pzWithout.calls (A0 : Option Addr) (c0 : Nat) (l0 : List (S37)) (a1 : Int) (r : List (S37)) (w : World) (hr0 : Kd.C k37 w A0 l0.length l0) (hc0 : l0.length ≤ c0) (h : spec_pzWithout.f l0 a1 = some r) :
  Calls Tryz.prog 63 #[.slice A0 l0.length c0, .int .i64 a1] w fun e w' => ∃ v0_ : Value, e = .returned (v0_) ∧ Kd.R k37 37 w' w.heap.size (fun _ => True) v0_ r ∧ Below w.heap.size w w' := by
 have HR0 := Aside0.mk hr0
 have HC0 := Aside0.mk hc0
 clear hr0 hc0
 have HB := Aside0.mk (Below.refl w.heap.size w)
 unfold spec_pzWithout.f at h
 have H := h
 clear h
 obtain ⟨y443, hy443⟩ : ∃ y_ : List (S37), y_ = (([] : List (S37))) := ⟨_, rfl⟩
 replace H : (if 0 ≤ a1 then (if a1 ≤ (l0.length : Int) then ((some (l0.take (a1 : Int).toNat : List (S37))).bind fun y446 => (if y443.length + y446.length < 4398046511104 then ((some (y443 ++ y446 : List (S37))).bind fun y450 => (if 0 ≤ (wrap64 (a1 + 1)) then (if (wrap64 (a1 + 1)) ≤ (l0.length : Int) then ((some (l0.drop ((wrap64 (a1 + 1)) : Int).toNat : List (S37))).bind fun y453 => (if y450.length + y453.length < 4398046511104 then (some (y450 ++ y453)) else (none))) else (none)) else (none))) else (none))) else (none)) else (none)) = some r := by first | (rw [hy443]; with_reducible exact H) | (have H2_ := (Option.bind_some _ _).symm.trans H; rw [hy443]; with_reducible exact H2_) | (have H2_ := (Option.bind_some _ _).symm.trans H; with_reducible exact H2_) | with_reducible exact H | (rw [hy443]; exact H) | exact H
 have Ny443 := Aside0.mk hy443
 clear hy443
 obtain ⟨c3, H⟩ := oi H
 have c3b0 := eq_true c3
 have c3b1 := decide_eq_true c3
 clear c3
 obtain ⟨c4, H⟩ := oi H
 have c4b0 := eq_true c4
 have c4b1 := decide_eq_true c4
 clear c4
 obtain ⟨y446, hy446⟩ : ∃ y_ : List (S37), y_ = (l0.take (a1 : Int).toNat) := ⟨_, rfl⟩
 replace H : (if y443.length + y446.length < 4398046511104 then ((some (y443 ++ y446 : List (S37))).bind fun y450 => (if 0 ≤ (wrap64 (a1 + 1)) then (if (wrap64 (a1 + 1)) ≤ (l0.length : Int) then ((some (l0.drop ((wrap64 (a1 + 1)) : Int).toNat : List (S37))).bind fun y453 => (if y450.length + y453.length < 4398046511104 then (some (y450 ++ y453)) else (none))) else (none)) else (none))) else (none)) = some r := by first | (rw [hy446]; with_reducible exact H) | (have H2_ := (Option.bind_some _ _).symm.trans H; rw [hy446]; with_reducible exact H2_) | (have H2_ := (Option.bind_some _ _).symm.trans H; with_reducible exact H2_) | with_reducible exact H | (rw [hy446]; exact H) | exact H
 have Ny446 := Aside0.mk hy446
 clear hy446
 obtain ⟨c5, H⟩ := oi H
 have LMc5 := Aside0.mk c5
 clear c5
 obtain ⟨y450, hy450⟩ : ∃ y_ : List (S37), y_ = (y443 ++ y446) := ⟨_, rfl⟩
 replace H : (if 0 ≤ (wrap64 (a1 + 1)) then (if (wrap64 (a1 + 1)) ≤ (l0.length : Int) then ((some (l0.drop ((wrap64 (a1 + 1)) : Int).toNat : List (S37))).bind fun y453 => (if y450.length + y453.length < 4398046511104 then (some (y450 ++ y453)) else (none))) else (none)) else (none)) = some r := by first | (rw [hy450]; with_reducible exact H) | (have H2_ := (Option.bind_some _ _).symm.trans H; rw [hy450]; with_reducible exact H2_) | (have H2_ := (Option.bind_some _ _).symm.trans H; with_reducible exact H2_) | with_reducible exact H | (rw [hy450]; exact H) | exact H
 have Ny450 := Aside0.mk hy450
 clear hy450
 obtain ⟨ji6, hji6⟩ : ∃ j_ : Int, (wrap64 (a1 + 1)) = j_ := ⟨_, rfl⟩
 replace H : (if 0 ≤ (ji6) then (if (ji6) ≤ (l0.length : Int) then ((some (l0.drop ((ji6) : Int).toNat : List (S37))).bind fun y453 => (if y450.length + y453.length < 4398046511104 then (some (y450 ++ y453)) else (none))) else (none)) else (none)) = some r := by first | (rw [hji6] at H; exact H) | (simp only [hji6] at H ⊢; exact H)
 have hji6w : (IntKind.i64.wrap (a1 + 1)) = ji6 := (i64_w _).trans hji6
 obtain ⟨c7, H⟩ := oi H
 have c7b0 := eq_true c7
 have c7b1 := decide_eq_true c7
 clear c7
 obtain ⟨c8, H⟩ := oi H
 have c8b0 := eq_true c8
 have c8b1 := decide_eq_true c8
 clear c8
 obtain ⟨y453, hy453⟩ : ∃ y_ : List (S37), y_ = (l0.drop ((ji6) : Int).toNat) := ⟨_, rfl⟩
 replace H : (if y450.length + y453.length < 4398046511104 then (some (y450 ++ y453)) else (none)) = some r := by first | (rw [hy453]; with_reducible exact H) | (have H2_ := (Option.bind_some _ _).symm.trans H; rw [hy453]; with_reducible exact H2_) | (have H2_ := (Option.bind_some _ _).symm.trans H; with_reducible exact H2_) | with_reducible exact H | (rw [hy453]; exact H) | exact H
 have Ny453 := Aside0.mk hy453
 clear hy453
 obtain ⟨c9, H⟩ := oi H
 have LMc9 := Aside0.mk c9
 clear c9
 obtain ⟨y457, hy457⟩ : ∃ y_ : List (S37), y_ = (y450 ++ y453) := ⟨_, rfl⟩
 replace H : (some y457) = some r := by first | (rw [hy457]; with_reducible exact H) | (have H2_ := (Option.bind_some _ _).symm.trans H; rw [hy457]; with_reducible exact H2_) | (have H2_ := (Option.bind_some _ _).symm.trans H; with_reducible exact H2_) | with_reducible exact H | (rw [hy457]; exact H) | exact H
 have Ny457 := Aside0.mk hy457
 clear hy457
 obtain rfl := Option.some.inj H
 go_enter Tryz.func63, Tryz.ntmps63
 try go_wp2
 replace HB := Aside0.mk (below_drew1 HB.out)
 have q11 : (a1 : Int) ≤ ((l0.length : Int) : Int) := of_decide_eq_true asm
 obtain ⟨i011, hi011, _, hsz11, _⟩ := info_parts info37
 have hroom11 : l0.length ≤ c0 := HC0.out
 have hC11 : Kd.C k37 _ A0 l0.length l0 := HR0.out
 have hcut11 := cut_to (P := Tryz.prog) 26 37 .i64 Tryz.underlying26 hi011 A0 l0.length c0 a1 (of_decide_eq_true asm) q11 hroom11
 have hr11 := Kd.C_take (m := (a1 : Int).toNat) hC11 (by omega)
 have hy11 : y446.length = (a1 : Int).toNat := (by rw [Ny446.out, List.length_take]; omega)
 rw [← Ny446.out] at hr11
 rw [← hy11] at hcut11
 have HR449 := Aside0.mk hr11
 have HC449 := Aside0.mk (show y446.length ≤ c0 from by omega)
 clear hr11 hC11 hroom11 hi011 hsz11
 have KY11 := Aside0.mk hy11
 clear hy11
 replace q11 := eq_true q11
 have q12 : ((ji6) : Int) ≤ ((l0.length : Int) : Int) := of_decide_eq_true asm
 obtain ⟨i012, hi012, _, hsz12, _⟩ := info_parts info37
 have hroom12 : l0.length ≤ c0 := HC0.out
 have hC12 : Kd.C k37 _ A0 l0.length l0 := HR0.out
 have q012 : (0 : Int) ≤ ((ji6) : Int) := of_decide_eq_true asm
 have hcut12 := cut_from (P := Tryz.prog) 26 37 .i64 Tryz.underlying26 hi012 4 hsz12 A0 l0.length c0 (ji6) q012 q12
 have hr12 := Kd.C_drop (m := ((ji6) : Int).toNat) (c := c0) hC12 (by omega) hroom12
 obtain ⟨A12, hA12⟩ : ∃ A1, A1 = (if c0 = ((ji6) : Int).toNat then A0 else (A0 : Option Addr).map (·.add (((ji6) : Int).toNat * 4))) := ⟨_, rfl⟩
 obtain ⟨c12, hc12⟩ : ∃ c1, c1 = c0 - ((ji6) : Int).toNat := ⟨_, rfl⟩
 have hy12 : y453.length = l0.length - ((ji6) : Int).toNat := (by rw [Ny453.out, List.length_drop] <;> omega)
 rw [show (l0).drop ((ji6) : Int).toNat = y453 from Ny453.out.symm] at hr12
 replace hr12 : Kd.C k37 _ A12 y453.length y453 := (by rw [hA12]; exact hr12)
 rw [← hy12, ← hA12, ← hc12] at hcut12
 have HR456 := Aside0.mk hr12
 have HC456 := Aside0.mk (show y453.length ≤ c12 from by rw [hy12, hc12]; exact Nat.sub_le_sub_right hroom12 _)
 clear hr12 hC12 hroom12 hi012 hsz12 hc12
 have KY12 := Aside0.mk hy12
 have KA12 := Aside0.mk hA12
 clear hy12 hA12
 replace q12 := eq_true q12
 refine start_ (n := 11) (S := fun w' => True) (ds := []) (tb 11 0) (by kernel_rfl) rfl rfl trivial (fun hHeld => ?_); refine with_tabW spec_pzWithout.tab1 spec_pzWithout.bits1 (fun HT_ HW_ => ?_)
 generalize w.drew = w10 at HB HR449 HR456 hHeld ⊢
 refine pu 1 (some 6) (tb 11 2) ?_
 refine pu 2 (some 7) (tb 11 6) ?_
 refine pu 3 (some 8) (tb 11 14) ?_
 refine pu 5 (some 10) (tb 11 46) ?_
 refine pu 6 (some 11) (tb 11 110) ?_
 refine pu 7 (some 12) (tb 11 238) ?_
 refine pu 8 (some 13) (tb 11 494) ?_
 refine one_ (i := 0) (N := some 5) (tb 11 495) rfl rfl (one_of HT_.out (by kernel_rfl)) (by decide) (fun K hK => ?_)
 refine Kd.R_lit_step k37 _ 37 ?hg (N := 5) ?hd (xs := ([] : List (S37))) (inner := []) (ok := fun _ => True) (okp := fun _ => True) ?hr ?hp (fun _ hk => hk) trivial (Below.refl _ _) (Nat.le_refl _) (by simp) ?_; (case hd => rfl); (case hg => rfl); (case hr => first | (go_simp; done) | (go_simp; rfl)); (case hp => exact (Reps.none _ _))
 intro v444 w13 ho14 hb hg_ hnew_
 clear hg_ hnew_
 (first | rw [← Ny443.out] at ho14 | (simp only [Int.reduceToNat] at ho14; rw [← Ny443.out] at ho14))
 have HO445 := Aside0.mk (Kd.R_lower ho14 (below_size bw))
 replace HB := bs hb
 clear hb ho14
 refine hK.out _ _ trivial (fun hHeld => ?_)
 clear hK K
 refine nm (some 5) ?_
 refine one_ (i := 4) (N := some 9) (tb 11 511) rfl rfl (one_of HT_.out (by kernel_rfl)) (by decide) (fun K hK => ?_)
 refine Kd.R_append_rows_step k37 (w0 := w) w.heap.size (by rfl) (.tmp 5) (.tmp 8) 26 37 (.agg #[(.int .i64 0), (.int .i64 0), (.int .i64 0), (.int .i64 0)]) 32 rfl Tryz.underlying26 info37 rfl (by decide) (by omega) v444 y443 y446 _ _ _ (fun _ => True) (fun _ => False) rfl rfl ?aO ?aR (fun _ _ h => h) (fun _ h => h.elim) ?aF ?aB ?aS ?aL ?_
 (case aR => exact cb HR449)
 (case aB => exact bw)
 (case aF => exact (fun _ _ => trivial))
 (case aO => exact (pr HO445))
 (case aS => exact (below_size bw))
 (case aL => have := LMc5.out; omega)
 intro v451 w15 ho hb hg hat
 rw [← Ny450.out] at ho
 have n0_ := Aside0.mk (hb)
 have n1_ := Aside0.mk (ho)
 clear HB
 clear HO445
 have HB := n0_
 have HO452 := n1_
 clear n0_ n1_
 clear ho hb hg hat
 refine hK.out _ _ trivial (fun hHeld => ?_)
 clear hK K
 refine nm (some 9) ?_
 refine one_ (i := 9) (N := some 14) (tb 11 1023) rfl rfl (one_of HT_.out (by kernel_rfl)) (by decide) (fun K hK => ?_)
 refine Kd.R_append_rows_step k37 (w0 := w) w.heap.size (by rfl) (.tmp 9) (.tmp 13) 26 37 (.agg #[(.int .i64 0), (.int .i64 0), (.int .i64 0), (.int .i64 0)]) 32 rfl Tryz.underlying26 info37 rfl (by decide) (by omega) v451 y450 y453 _ _ _ (fun _ => True) (fun _ => False) rfl rfl ?aO ?aR (fun _ _ h => h) (fun _ h => h.elim) ?aF ?aB ?aS ?aL ?_
 (case aR => exact cb HR456)
 (case aB => exact bw)
 (case aF => exact (fun _ _ => trivial))
 (case aO => exact (pr HO452))
 (case aS => exact (below_size bw))
 (case aL => have := LMc9.out; omega)
 intro v458 w16 ho hb hg hat
 rw [← Ny457.out] at ho
 have n0_ := Aside0.mk (hb)
 have n1_ := Aside0.mk (ho)
 clear HB
 clear HO452
 have HB := n0_
 have HO459 := n1_
 clear n0_ n1_
 clear ho hb hg hat
 refine hK.out _ _ trivial (fun hHeld => ?_)
 clear hK K
 refine nm (some 14) ?_
 refine pu 10 (some 4) (tb 11 2047) ?_
 refine done_ (done_of HT_.out (by kernel_rfl)) ?_
 try go_wp2
 go_ret
 exact ⟨_, by first | rfl | (simp [errW_none, errW_some] <;> rfl) | (simp only [← hji6]; first | rfl | (simp [errW_none, errW_some] <;> rfl)) | (simp [*, errW_none, errW_some] <;> rfl), pr HO459, bw⟩
/-! ### spec_HarderPuzzle: function 17 -/
mutual
def spec_HarderPuzzle.j0 : Nat → Bool → Int → List (S37) → Option (Int × (List (S37)) × Bool)
  | 0, _, _, _ => none
  | k + 1, x17, x461000, x461001 => if x17 = true then (some (0, ([] : List (S37)), false)) else ((some (([] : List (S37)) : List (S37))).bind fun y464 => (if y464.length + x461001.length < 4398046511104 then (spec_HarderPuzzle.l0 k (y464 ++ x461001) 0 x461000 x461001) else (none)))
def spec_HarderPuzzle.l0 : Nat → List (S37) → Int → Int → List (S37) → Option (Int × (List (S37)) × Bool)
  | 0, _, _, _, _ => none
  | k + 1, x4, x5, x461000, x461001 => if x5 < (x4.length : Int) then ((spec_pzWithout.f x4 x5).bind fun t470 => ((spec_pzSolved.f k x461000 t470).bind fun t473 => (if t473 = true then (spec_HarderPuzzle.l0 k t470 x5 x461000 x461001) else (spec_HarderPuzzle.l0 k x4 (wrap64 (x5 + 1)) x461000 x461001)))) else (some (x461000, x4, true))
end
def spec_HarderPuzzle.f (k : Nat) (a0_0 : Int) (l0_1 : List (S37)) : Option (Int × (List (S37)) × Bool) := (spec_pzGood.f k a0_0 l0_1).bind fun t462 => (if t462 = true then ((spec_pzSolved.f k a0_0 l0_1).bind fun t463 => (spec_HarderPuzzle.j0 k (!t463) a0_0 l0_1)) else (spec_HarderPuzzle.j0 k true a0_0 l0_1))
theorem spec_HarderPuzzle.mono_l : ∀ k, (∀ y0 y1 y2, LeO (spec_HarderPuzzle.j0 k y0 y1 y2) (spec_HarderPuzzle.j0 (k + 1) y0 y1 y2)) ∧ (∀ y0 y1 y2 y3, LeO (spec_HarderPuzzle.l0 k y0 y1 y2 y3) (spec_HarderPuzzle.l0 (k + 1) y0 y1 y2 y3))
  | 0 => ⟨fun _ _ _ r h => by simp [spec_HarderPuzzle.j0] at h, fun _ _ _ _ r h => by simp [spec_HarderPuzzle.l0] at h⟩
  | k + 1 => by
    obtain ⟨ih0, ih1⟩ := spec_HarderPuzzle.mono_l k
    refine ⟨?q0, ?q1⟩
    case' q0 => (intros; unfold spec_HarderPuzzle.j0)
    case' q1 => (intros; unfold spec_HarderPuzzle.l0)
    all_goals repeat' first
     | (with_reducible exact ih0 _ _ _)
     | (with_reducible exact ih1 _ _ _ _)
     | (with_reducible exact spec_pzGood.mono _ _ _)
     | (with_reducible exact spec_pzSolved.mono _ _ _)
     | (with_reducible exact LeO.refl _)
     | (with_reducible exact LeO.none _)
     | (with_reducible refine LeO.ite ?_ ?_)
     | (with_reducible refine LeO.bind ?_ (fun _ => ?_))
     | exact ih0 _ _ _
     | exact ih1 _ _ _ _
     | exact spec_pzGood.mono _ _ _
     | exact spec_pzSolved.mono _ _ _
     | exact LeO.none _
     | refine LeO.ite ?_ ?_
     | refine LeO.bind ?_ (fun _ => ?_)
theorem spec_HarderPuzzle.mono : ∀ a0 a1 k, LeO (spec_HarderPuzzle.f k a0 a1) (spec_HarderPuzzle.f (k + 1) a0 a1) := by
  intro a0 a1 k
  obtain ⟨ih0, ih1⟩ := spec_HarderPuzzle.mono_l k
  unfold spec_HarderPuzzle.f
  repeat' first
      | (with_reducible exact ih0 _ _ _)
      | (with_reducible exact ih1 _ _ _ _)
      | (with_reducible exact spec_pzGood.mono _ _ _)
      | (with_reducible exact spec_pzSolved.mono _ _ _)
      | (with_reducible exact LeO.refl _)
      | (with_reducible exact LeO.none _)
      | (with_reducible refine LeO.ite ?_ ?_)
      | (with_reducible refine LeO.bind ?_ (fun _ => ?_))
      | exact ih0 _ _ _
      | exact ih1 _ _ _ _
      | exact spec_pzGood.mono _ _ _
      | exact spec_pzSolved.mono _ _ _
      | exact LeO.none _
      | refine LeO.ite ?_ ?_
      | refine LeO.bind ?_ (fun _ => ?_)
set_option maxHeartbeats 8000000 in
set_option maxRecDepth 100000 in
theorem spec_HarderPuzzle.calls (k : Nat) (a0_0 : Int) (A0_1 : Option Addr) (c0_1 : Nat) (l0_1 : List (S37)) (r1 : Int) (r2 : List (S37)) (r3 : Bool) (w : World) (hr0_1 : Kd.C k37 w A0_1 l0_1.length l0_1) (hc0_1 : l0_1.length ≤ c0_1) (h : spec_HarderPuzzle.f k a0_0 l0_1 = some (r1, r2, r3)) :
  Calls Tryz.prog 17 #[.agg #[.int .i64 a0_0, .slice A0_1 l0_1.length c0_1]] w fun e w' => ∃ v1_ : Value, e = .returned (.tuple #[.agg #[.int .i64 r1, v1_], .bool r3]) ∧ Kd.R k37 37 w' w.heap.size (fun _ => True) v1_ r2 ∧ Below w.heap.size w w' := by
 have hu28 := Tryz.underlying28
 have HR0_1 := Aside0.mk hr0_1
 have HC0_1 := Aside0.mk hc0_1
 clear hr0_1 hc0_1
 have HB := Aside0.mk (Below.refl w.heap.size w)
 unfold spec_HarderPuzzle.f at h
 have H := h
 clear h
 have HC2 := Aside0.mk H
 clear H
 go_enter Tryz.func17, Tryz.ntmps17
 go_upto_region 1 with (first | ((with_reducible refine gd 1 ?_); refine bx 1 28 #[.int .i64 a0_0, .slice A0_1 l0_1.length c0_1] ?_; intro gb460 hg w3 hbox hb; have BK460 := hbox; have GW460 := gs hg; have GE460 := gs hg; replace HB := bs hb; clear hb hbox hg) | ((with_reducible refine gd 2 ?_); refine bx 2 28 #[.int .i64 0, .slice none 0 0] ?_; intro gb461 hg w4 hbox hb; have BK461 := hbox; have GW461 := gs hg; have GE461 := gs hg; replace HB := bs hb; have ⟨NB460_461, NB461_460⟩ := nn BK460 hg; replace BK460 := nk BK460 hb; clear hb hbox hg))
 (try simp only [Act.put, List.setIfInBounds_toArray, List.set_cons_zero, List.set_cons_succ])
 go_cut [17] (fun v17 wc => ∃ (kq : Nat) (x17_1 : Bool), v17 = .bool x17_1 ∧ Aside0 (spec_HarderPuzzle.j0 kq x17_1 a0_0 l0_1 = some (r1, r2, r3)) ∧ Aside0 (kq ≤ k) ∧ Aside0 (wc.heap[gb460]? = some (.cells #[.int .i64 a0_0, (.slice A0_1 l0_1.length c0_1)] 28 (0, 0))) ∧ Aside0 (wc.heap[gb461]? = some (.cells #[.int .i64 0, (.slice none 0 0)] 28 (0, 0))) ∧ Aside0 (Below w.heap.size w wc))
 case first =>
  have H := HC2.out
  clear HC2
  obtain ⟨t462, A5, H⟩ := ob H
  (try dsimp only at H)
  by_cases c6 : t462 = true
  ·subst c6
   rw [if_pos rfl] at H
   obtain ⟨t463, A7, H⟩ := ob H
   (try dsimp only at H)
   have H' := Aside0.mk H
   clear H
   have hnb8 := nb NB460_461
   obtain ⟨hcz9_0, hcz9_1, hfz9_0, hfz9_1⟩ := z2 BK460
   go_wp2_with (first | ((with_reducible refine gc 61 ?_); refine gl (some 8) Tryz.func61 #[.agg #[.int .i64 a0_0, .slice A0_1 l0_1.length c0_1]] ?_; (with_reducible refine (spec_pzGood.calls k a0_0 _ _ l0_1 true _ ?_ ?_ A5.out).mono ?_); exact cb HR0_1; exact HC0_1.out; rintro e w10 ⟨rfl, hb⟩; refine ⟨_, rfl, ?_⟩; replace BK460 := nk BK460 hb; replace BK461 := nk BK461 hb; replace HB := bs hb; (try clear hb); obtain ⟨hcz11_0, hcz11_1, hfz11_0, hfz11_1⟩ := z2 BK460) | (go_at_call 62; (with_reducible refine (spec_pzSolved.calls k a0_0 _ _ l0_1 t463 _ ?_ ?_ A7.out).mono ?_); exact cb HR0_1; exact HC0_1.out; rintro e w12 ⟨rfl, hb⟩; replace BK460 := nk BK460 hb; replace BK461 := nk BK461 hb; replace HB := bs hb; (try clear hb)))
   go_meet
   case rel => exact ⟨_, (!t463), (rs), H', ⟨by first | omega | exact Nat.le_refl _⟩, ⟨pk BK460⟩, ⟨pk BK461⟩, ⟨bw⟩⟩
  replace c6 := Bool.eq_false_iff.mpr c6
  subst c6
  rw [if_neg (show ¬ (false = true) by decide)] at H
  have H' := Aside0.mk H
  clear H
  have hnb13 := nb NB460_461
  obtain ⟨hcz14_0, hcz14_1, hfz14_0, hfz14_1⟩ := z2 BK460
  go_wp2_with (first | ((with_reducible refine gc 61 ?_); refine gl (some 8) Tryz.func61 #[.agg #[.int .i64 a0_0, .slice A0_1 l0_1.length c0_1]] ?_; (with_reducible refine (spec_pzGood.calls k a0_0 _ _ l0_1 false _ ?_ ?_ A5.out).mono ?_); exact cb HR0_1; exact HC0_1.out; rintro e w15 ⟨rfl, hb⟩; refine ⟨_, rfl, ?_⟩; replace BK460 := nk BK460 hb; replace BK461 := nk BK461 hb; replace HB := bs hb; (try clear hb)))
  go_meet
  case rel => exact ⟨_, (true), (rs), H', ⟨by first | omega | exact Nat.le_refl _⟩, ⟨pk BK460⟩, ⟨pk BK461⟩, ⟨bw⟩⟩
 case rest =>
  clear HC2
  try clear c1
  try clear p2
  try clear c6
  try clear c8
  try clear c13
  try clear hcz11_0
  try clear hcz11_1
  try clear hcz14_0
  try clear hcz14_1
  try clear hcz9_0
  try clear hcz9_1
  try clear hfz11_0
  try clear hfz11_1
  try clear hfz14_0
  try clear hfz14_1
  try clear hfz9_0
  try clear hfz9_1
  obtain ⟨kq, x17_1, rfl, HA, HJ1, BK460, BK461, HB⟩ := hcut
  cases kq with
  | zero => exact absurd HA.out (by simp [spec_HarderPuzzle.j0])
  | succ kj1 =>
   have H := HA.out
   clear HA
   simp only [spec_HarderPuzzle.j0] at H
   by_cases c16 : x17_1 = true
   ·subst c16
    rw [if_pos rfl] at H
    simp only [Option.some.injEq, Prod.mk.injEq] at H
    obtain ⟨rfl, rfl, rfl⟩ := H
    have hnb17 := nb NB461_460
    have hcz18_0 : wc.cell? ⟨gb461, 0, none⟩ = some (.int .i64 0) := ec BK461
    have hcz18_1 : wc.cell? ⟨gb461, 1, none⟩ = some (.slice none 0 0) := ec BK461
    have hfz18_0 := blk_frozen BK461.out 0
    have hfz18_1 := blk_frozen BK461.out 1
    go_wp2
    refine bodyPost_ret (results_ct rfl _ _ gb461 28 #[.int .i64 0, .slice none 0 0] (0, 0) _ rfl (pz BK461) Tryz.underlying28 rfl (by kernel_rfl)) rfl ?_
    exact ⟨_, rs, by first | exact Kd.R_nil _ _ _ _ _ | exact Kd.N_nil _ _ _ _ _ | exact Kd.V_nil _ _ _ _ _ | exact Kd.Q_nil _ _ _ _ _ | exact Kd.S_nil _ _ _ _ _, bw⟩
   replace c16 := Bool.eq_false_iff.mpr c16
   subst c16
   rw [if_neg (show ¬ (false = true) by decide)] at H
   obtain ⟨y464, hy464⟩ : ∃ y_ : List (S37), y_ = (([] : List (S37))) := ⟨_, rfl⟩
   replace H : (if y464.length + l0_1.length < 4398046511104 then (spec_HarderPuzzle.l0 kj1 (y464 ++ l0_1) 0 a0_0 l0_1) else (none)) = some (r1, r2, r3) := by first | (rw [hy464]; with_reducible exact H) | (have H2_ := (Option.bind_some _ _).symm.trans H; rw [hy464]; with_reducible exact H2_) | (have H2_ := (Option.bind_some _ _).symm.trans H; with_reducible exact H2_) | with_reducible exact H | (rw [hy464]; exact H) | exact H
   have Ny464 := Aside0.mk hy464
   clear hy464
   obtain ⟨c19, H⟩ := oi H
   have LMc19 := Aside0.mk c19
   clear c19
   obtain ⟨y467, hy467⟩ : ∃ y_ : List (S37), y_ = (y464 ++ l0_1) := ⟨_, rfl⟩
   replace H : (spec_HarderPuzzle.l0 kj1 y467 0 a0_0 l0_1) = some (r1, r2, r3) := by first | (rw [hy467]; with_reducible exact H) | (have H2_ := (Option.bind_some _ _).symm.trans H; rw [hy467]; with_reducible exact H2_) | (have H2_ := (Option.bind_some _ _).symm.trans H; with_reducible exact H2_) | with_reducible exact H | (rw [hy467]; exact H) | exact H
   have Ny467 := Aside0.mk hy467
   clear hy467
   have H' := Aside0.mk H
   clear H
   go_wp2_with (first | ((with_reducible refine gd 19 ?_); refine Kd.R_lit k37 _ 37 ?hg (N := 19) ?hd (xs := ([] : List (S37))) (inner := []) (ok := fun _ => True) (okp := fun _ => True) ?hr ?hp (fun _ hk => hk) trivial (Below.refl _ _) (Nat.le_refl _) (by simp) ?_; (case hd => rfl); (case hg => rfl); (case hr => first | (go_simp; done) | (go_simp; rfl)); (case hp => exact (Reps.none _ _)); intro v465 w20 ho21 hb hg_ hnew_; clear hg_ hnew_; (first | rw [← Ny464.out] at ho21 | (simp only [Int.reduceToNat] at ho21; rw [← Ny464.out] at ho21)); have HO466 := Aside0.mk (Kd.R_lower ho21 (below_size bw)); replace BK460 := nk BK460 hb; replace BK461 := nk BK461 hb; replace HB := bs hb; clear hb ho21; have hnb22 := nb NB460_461; obtain ⟨hcz23_0, hcz23_1, hfz23_0, hfz23_1⟩ := z2 BK460) | ((with_reducible refine gate_builtin (b := .append) (xs := #[.tmp 19, .tmp 21]) rfl ?_); at_builtin; refine Kd.R_append_rows k37 (w0 := w) w.heap.size rfl (.tmp 19) (.tmp 21) 26 37 (.agg #[(.int .i64 0), (.int .i64 0), (.int .i64 0), (.int .i64 0)]) 32 rfl Tryz.underlying26 info37 rfl (by decide) (by omega) v465 y464 l0_1 _ _ _ (fun _ => True) (fun _ => False) rfl rfl ?aO ?aR (fun _ _ h => h) (fun _ h => h.elim) ?aF ?aB ?aS ?aL ?_; (case aR => exact cb HR0_1); (case aB => exact bw); (case aF => exact (fun _ _ => trivial)); (case aO => exact (pr HO466)); (case aS => exact (below_size bw)); (case aL => have := LMc19.out; omega); intro v468 w24 ho hb hg hat; rw [← Ny467.out] at ho; have n0_ := Aside0.mk (blk_grown (pk BK460) hg (Kd.R_ne HO466.out BK460.out (by decide))); have n1_ := Aside0.mk (blk_grown (pk BK461) hg (Kd.R_ne HO466.out BK461.out (by decide))); have n2_ := Aside0.mk (hb); have n3_ := Aside0.mk (ho); clear BK460; clear BK461; clear HB; clear HO466; have BK460 := n0_; have BK461 := n1_; have HB := n2_; have HO469 := n3_; clear n0_ n1_ n2_ n3_; clear ho hb hg hat))
   go_loopg [4, 5] kj1 (fun kq v4 v5 w' => ∃ (x4_2 : List (S37)) (x5_2 : Int), v5 = .int .i64 x5_2 ∧ Aside0 (spec_HarderPuzzle.l0 kq x4_2 x5_2 a0_0 l0_1 = some (r1, r2, r3)) ∧ Aside0 (kq ≤ kj1) ∧ Aside0 (Kd.R k37 37 w' w.heap.size (fun _ => True) v4 x4_2) ∧ Aside0 (w'.heap[gb460]? = some (.cells #[.int .i64 a0_0, (.slice A0_1 l0_1.length c0_1)] 28 (0, 0))) ∧ Aside0 (w'.heap[gb461]? = some (.cells #[.int .i64 0, (.slice none 0 0)] 28 (0, 0))) ∧ Aside0 (Below w.heap.size w w'))
   case atStart => exact ⟨(y467), (0), (rs), H', ⟨Nat.le_refl _⟩, ⟨pr HO469⟩, ⟨pk BK460⟩, ⟨pk BK461⟩, ⟨bw⟩⟩
   case round =>
    clear H'
    try clear c1
    try clear c2
    try clear p2
    try clear c6
    try clear c8
    try clear c13
    try clear c16
    try clear c17
    try clear c19
    try clear c22
    try clear hcz11_0
    try clear hcz11_1
    try clear hcz14_0
    try clear hcz14_1
    try clear hcz18_0
    try clear hcz18_1
    try clear hcz23_0
    try clear hcz23_1
    try clear hcz9_0
    try clear hcz9_1
    try clear hfz11_0
    try clear hfz11_1
    try clear hfz14_0
    try clear hfz14_1
    try clear hfz18_0
    try clear hfz18_1
    try clear hfz23_0
    try clear hfz23_1
    try clear hfz9_0
    try clear hfz9_1
    try clear p2
    obtain ⟨x4_2, x5_2, rfl, HA, HK2, HO_4, BK460, BK461, HB⟩ := hrel
    cases gk with
    | zero => exact absurd HA.out (by simp [spec_HarderPuzzle.l0])
    | succ k2 =>
     have H := HA.out
     clear HA
     simp only [spec_HarderPuzzle.l0] at H
     by_cases c25 : x5_2 < (x4_2.length : Int)
     ·rw [if_pos c25] at H
      have c25b0 := decide_eq_true c25
      clear c25
      obtain ⟨t470, A26, H⟩ := ob H
      (try dsimp only at H)
      obtain ⟨t473, A27, H⟩ := ob H
      (try dsimp only at H)
      by_cases c28 : t473 = true
      ·subst c28
       rw [if_pos rfl] at H
       have H' := Aside0.mk H
       clear H
       obtain ⟨Ao29, co29, eo29⟩ := Kd.R_slice HO_4.out
       subst eo29
       go_wp2_with (first | ((with_reducible refine gc 63 ?_); refine gl (some 29) Tryz.func63 #[.slice Ao29 x4_2.length co29, .int .i64 x5_2] ?_; (with_reducible refine (spec_pzWithout.calls _ _ x4_2 x5_2 t470 _ ?_ ?_ A26.out).mono ?_); exact rr HO_4; exact rn HO_4; rintro e w30 ⟨v471, rfl, ho0, hb⟩; refine ⟨_, rfl, ?_⟩; have HO472 := Aside0.mk (Kd.R_lower (Kd.R_new' ho0 (Kd.R_lt (pr HO_4))) (below_size bw)); replace HO_4 := re HO_4 ho0 hb; replace BK460 := nk BK460 hb; replace BK461 := nk BK461 hb; replace HB := bs hb; (try clear hb); (try clear ho0); have hnb31 := nb NB460_461; have hz32 := z2 BK460; obtain ⟨Ao33, co33, eo33⟩ := Kd.R_slice HO472.out; subst eo33) | ((with_reducible refine gc 62 ?_); refine gl (some 33) Tryz.func62 #[.int .i64 a0_0, .slice Ao33 t470.length co33] ?_; (with_reducible refine (spec_pzSolved.calls k2 a0_0 _ _ t470 true _ ?_ ?_ A27.out).mono ?_); exact rr HO472; exact rn HO472; rintro e w34 ⟨rfl, hb⟩; refine ⟨_, rfl, ?_⟩; replace HO_4 := rl HO_4 hb; replace HO472 := rl HO472 hb; replace BK460 := nk BK460 hb; replace BK461 := nk BK461 hb; replace HB := bs hb; (try clear hb)))
       go_roundg k2
       case measure => have := HJ1.out; have := HK2.out; omega
       case rel => exact ⟨(t470), (x5_2), (rs), H', ⟨by have := HJ1.out; have := HK2.out; omega⟩, ⟨by (with_reducible repeat (first | apply Kd.R_alloc | apply Kd.R_drewN | apply Kd.R_drew)); exact Kd.R_mono HO472.out (fun _ hk => trivial)⟩, ⟨pk BK460⟩, ⟨pk BK461⟩, ⟨bw⟩⟩
      replace c28 := Bool.eq_false_iff.mpr c28
      subst c28
      rw [if_neg (show ¬ (false = true) by decide)] at H
      have H' := Aside0.mk H
      clear H
      obtain ⟨Ao35, co35, eo35⟩ := Kd.R_slice HO_4.out
      subst eo35
      go_wp2_with (first | ((with_reducible refine gc 63 ?_); refine gl (some 29) Tryz.func63 #[.slice Ao35 x4_2.length co35, .int .i64 x5_2] ?_; (with_reducible refine (spec_pzWithout.calls _ _ x4_2 x5_2 t470 _ ?_ ?_ A26.out).mono ?_); exact rr HO_4; exact rn HO_4; rintro e w36 ⟨v471, rfl, ho0, hb⟩; refine ⟨_, rfl, ?_⟩; have HO472 := Aside0.mk (Kd.R_lower (Kd.R_new' ho0 (Kd.R_lt (pr HO_4))) (below_size bw)); replace HO_4 := re HO_4 ho0 hb; replace BK460 := nk BK460 hb; replace BK461 := nk BK461 hb; replace HB := bs hb; (try clear hb); (try clear ho0); have hnb37 := nb NB460_461; have hz38 := z2 BK460; obtain ⟨Ao39, co39, eo39⟩ := Kd.R_slice HO472.out; subst eo39) | ((with_reducible refine gc 62 ?_); refine gl (some 33) Tryz.func62 #[.int .i64 a0_0, .slice Ao39 t470.length co39] ?_; (with_reducible refine (spec_pzSolved.calls k2 a0_0 _ _ t470 false _ ?_ ?_ A27.out).mono ?_); exact rr HO472; exact rn HO472; rintro e w40 ⟨rfl, hb⟩; refine ⟨_, rfl, ?_⟩; replace HO_4 := rl HO_4 hb; replace HO472 := rl HO472 hb; replace BK460 := nk BK460 hb; replace BK461 := nk BK461 hb; replace HB := bs hb; (try clear hb)))
      go_roundg k2
      case measure => have := HJ1.out; have := HK2.out; omega
      case rel => exact ⟨(x4_2), (wrap64 (x5_2 + 1)), (rs), H', ⟨by have := HJ1.out; have := HK2.out; omega⟩, ⟨by (with_reducible repeat (first | apply Kd.R_alloc | apply Kd.R_drewN | apply Kd.R_drew)); exact Kd.R_mono HO_4.out (fun _ hk => trivial)⟩, ⟨pk BK460⟩, ⟨pk BK461⟩, ⟨bw⟩⟩
     rw [if_neg c25] at H
     have c25b0 := decide_eq_false c25
     clear c25
     simp only [Option.some.injEq, Prod.mk.injEq] at H
     obtain ⟨rfl, rfl, rfl⟩ := H
     obtain ⟨Ao41, co41, eo41⟩ := Kd.R_slice HO_4.out
     subst eo41
     have hnb42 := nb NB460_461
     have hcz43_0 : wr.cell? ⟨gb460, 0, none⟩ = some (.int .i64 a0_0) := ec BK460
     have hcz43_1 : wr.cell? ⟨gb460, 1, none⟩ = some (.slice A0_1 l0_1.length c0_1) := ec BK460
     have hfz43_0 := blk_frozen BK460.out 0
     have hfz43_1 := blk_frozen BK460.out 1
     have hcz44_0 : wr.cell? ⟨gb461, 0, none⟩ = some (.int .i64 0) := ec BK461
     have hcz44_1 : wr.cell? ⟨gb461, 1, none⟩ = some (.slice none 0 0) := ec BK461
     have hfz44_0 := blk_frozen BK461.out 0
     have hfz44_1 := blk_frozen BK461.out 1
     go_wp2
     refine bodyPost_ret (results_ct rfl _ _ gb461 28 #[.int .i64 a0_0, .slice Ao41 x4_2.length co41] (0, 0) _ rfl (pz BK461) Tryz.underlying28 rfl (by kernel_rfl)) rfl ?_
     exact ⟨_, rs, by (with_reducible repeat (first | apply Kd.R_alloc | apply Kd.R_drewN | apply Kd.R_drew)); exact Kd.R_mono (Kd.R_far (p := ⟨gb461, 1, none⟩) (Kd.R_far (p := ⟨gb461, 0, none⟩) (Kd.R_types HO_4.out BK461.out (by decide)) (fun _ hk => hk.2) (.int .i64 a0_0)) (fun _ hk => hk.2) (.slice Ao41 x4_2.length co41)) (fun _ hk => trivial), bw⟩
end Go.Proofs.YthjbmojacgkdcaaGreatDoor.PFnRowsHidden
