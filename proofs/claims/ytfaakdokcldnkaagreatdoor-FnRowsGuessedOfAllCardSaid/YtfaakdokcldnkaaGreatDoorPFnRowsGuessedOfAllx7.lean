-- Laid by xprint, a program of this session that runs over the kit's print.
import Derived.Test.YtfaakdokcldnkaaGreatDoorPFnRowsGuessedOfAllx6
namespace Go.Proofs.YtfaakdokcldnkaaGreatDoor.PFnRowsGuessedOfAll
open Go.RowKit Go.Proofs.YtfaakdokcldnkaaGreatDoorW.PrintWords Go.Proofs.YtfaakdokcldnkaaGreatDoorW.PrintLast Go.Proofs.YtfaakdokcldnkaaGreatDoorW.PrintMore Go.Proofs.YtfaakdokcldnkaaGreatDoor.Sq
attribute [local go_sem] max2_int min2_int max_two min_two max_three min_three max_four min_four   -- for this text's walks alone
set_option linter.unusedVariables false
set_option linter.unusedSimpArgs false

/-! ### spec_pzAll: function 36 -/
mutual
def spec_pzAll.l0 : Nat → Int → List (S42) → List ByteArray → Int → Option (List ByteArray)
  | 0, _, _, _, _ => none
  | k + 1, x0, x1, x5, x6 => if 0 ≤ x0 then (if x6 < (shl .i64 1 x0) then ((spec_rwMake.f k x0 x6).bind fun t203 => (spec_pzAll.l1 k x0 x1 x5 x6 t203 true x1 (x1.length : Int) 0)) else (some x5)) else (none)
def spec_pzAll.l1 : Nat → Int → List (S42) → List ByteArray → Int → ByteArray → Bool → List (S42) → Int → Int → Option (List ByteArray)
  | 0, _, _, _, _, _, _, _, _, _ => none
  | k + 1, x0, x1, x5, x6, x7, x8, x20, x21, x22 => if x22 < x21 then (if 0 ≤ x22 then (if x22 < (x20.length : Int) then (if x8 = true then ((spec_pzFits.f k ((rd_T42 x20 x22).f0) ((rd_T42 x20 x22).f1) ((rd_T42 x20 x22).f2) ((rd_T42 x20 x22).f3) x7).bind fun t206 => (spec_pzAll.l1 k x0 x1 x5 x6 x7 t206 x20 x21 (wrap64 (x22 + 1)))) else (spec_pzAll.l1 k x0 x1 x5 x6 x7 false x20 x21 (wrap64 (x22 + 1)))) else (none)) else (none)) else (if x8 = true then (if x5.length < 8796093022208 then (spec_pzAll.l0 k x0 x1 (x5 ++ [x7]) (wrap64 (x6 + 1))) else (none)) else (spec_pzAll.l0 k x0 x1 x5 (wrap64 (x6 + 1))))
end
def spec_pzAll.f (k : Nat) (a0 : Int) (l1 : List (S42)) : Option (List ByteArray) := spec_pzAll.l0 k a0 l1 ([] : List ByteArray) 0
theorem spec_pzAll.mono_l : ∀ k, (∀ y0 y1 y2 y3, LeO (spec_pzAll.l0 k y0 y1 y2 y3) (spec_pzAll.l0 (k + 1) y0 y1 y2 y3)) ∧ (∀ y0 y1 y2 y3 y4 y5 y6 y7 y8, LeO (spec_pzAll.l1 k y0 y1 y2 y3 y4 y5 y6 y7 y8) (spec_pzAll.l1 (k + 1) y0 y1 y2 y3 y4 y5 y6 y7 y8))
  | 0 => ⟨fun _ _ _ _ r h => by simp [spec_pzAll.l0] at h, fun _ _ _ _ _ _ _ _ _ r h => by simp [spec_pzAll.l1] at h⟩
  | k + 1 => by
    obtain ⟨ih0, ih1⟩ := spec_pzAll.mono_l k
    refine ⟨?q0, ?q1⟩
    case' q0 => (intros; unfold spec_pzAll.l0)
    case' q1 => (intros; unfold spec_pzAll.l1)
    all_goals repeat' first
     | (with_reducible exact ih0 _ _ _ _)
     | (with_reducible exact ih1 _ _ _ _ _ _ _ _ _)
     | (with_reducible exact spec_pzFits.mono _ _ _ _ _ _)
     | (with_reducible exact spec_rwMake.mono _ _ _)
     | (with_reducible exact LeO.refl _)
     | (with_reducible exact LeO.none _)
     | (with_reducible refine LeO.ite ?_ ?_)
     | (with_reducible refine LeO.bind ?_ (fun _ => ?_))
     | exact ih0 _ _ _ _
     | exact ih1 _ _ _ _ _ _ _ _ _
     | exact spec_pzFits.mono _ _ _ _ _ _
     | exact spec_rwMake.mono _ _ _
     | exact LeO.none _
     | refine LeO.ite ?_ ?_
     | refine LeO.bind ?_ (fun _ => ?_)
theorem spec_pzAll.mono : ∀ a0 a1 k, LeO (spec_pzAll.f k a0 a1) (spec_pzAll.f (k + 1) a0 a1) := by
  intro a0 a1 k
  obtain ⟨ih0, ih1⟩ := spec_pzAll.mono_l k
  unfold spec_pzAll.f
  repeat' first
      | (with_reducible exact ih0 _ _ _ _)
      | (with_reducible exact ih1 _ _ _ _ _ _ _ _ _)
      | (with_reducible exact spec_pzFits.mono _ _ _ _ _ _)
      | (with_reducible exact spec_rwMake.mono _ _ _)
      | (with_reducible exact LeO.refl _)
      | (with_reducible exact LeO.none _)
      | (with_reducible refine LeO.ite ?_ ?_)
      | (with_reducible refine LeO.bind ?_ (fun _ => ?_))
      | exact ih0 _ _ _ _
      | exact ih1 _ _ _ _ _ _ _ _ _
      | exact spec_pzFits.mono _ _ _ _ _ _
      | exact spec_rwMake.mono _ _ _
      | exact LeO.none _
      | refine LeO.ite ?_ ?_
      | refine LeO.bind ?_ (fun _ => ?_)
set_option maxHeartbeats 8000000 in
set_option maxRecDepth 100000 in
theorem spec_pzAll.calls (k : Nat) (a0 : Int) (A1 : Option Addr) (c1 : Nat) (l1 : List (S42)) (r : List ByteArray) (w : World) (hr1 : Kd.C k42 w A1 l1.length l1) (hc1 : l1.length ≤ c1) (h : spec_pzAll.f k a0 l1 = some r) :
  Calls Tryz.prog 36 #[.int .i64 a0, .slice A1 l1.length c1] w fun e w' => ∃ v0_ : Value, e = .returned (v0_) ∧ Kd.R Kd.string 9 w' w.heap.size (fun _ => True) v0_ r ∧ Below w.heap.size w w' := by
 have hu42 := Tryz.underlying42
 have HR1 := Aside0.mk hr1
 have HC1 := Aside0.mk hc1
 clear hr1 hc1
 have HB := Aside0.mk (Below.refl w.heap.size w)
 unfold spec_pzAll.f at h
 have H := h
 clear h
 have H' := Aside0.mk H
 clear H
 go_enter Tryz.func36, Tryz.ntmps36
 go_wp2
 go_loopg [5, 6] k (fun kq v5 v6 w' => ∃ (x5_1 : List ByteArray) (x6_1 : Int), v6 = .int .i64 x6_1 ∧ Aside0 (spec_pzAll.l0 kq a0 l1 x5_1 x6_1 = some r) ∧ Aside0 (kq ≤ k) ∧ Aside0 (Kd.R Kd.string 9 w' w.heap.size (fun _ => True) v5 x5_1) ∧ Aside0 (Below w.heap.size w w'))
 case atStart => exact ⟨(([] : List ByteArray)), (0), (rs), H', ⟨Nat.le_refl _⟩, ⟨by first | exact Kd.R_nil _ _ _ _ _ | exact Kd.N_nil _ _ _ _ _ | exact Kd.V_nil _ _ _ _ _ | exact Kd.Q_nil _ _ _ _ _ | exact Kd.S_nil _ _ _ _ _⟩, ⟨bw⟩⟩
 case round =>
  clear H'
  try clear c1
  try clear p2
  obtain ⟨x5_1, x6_1, rfl, HA, HK1, HO_5, HB⟩ := hrel
  cases gk with
  | zero => exact absurd HA.out (by simp [spec_pzAll.l0])
  | succ k1 =>
   have H := HA.out
   clear HA
   simp only [spec_pzAll.l0] at H
   obtain ⟨c3, H⟩ := oi H
   have c3b0 := eq_true c3
   have c3b1 := decide_eq_true c3
   clear c3
   obtain ⟨ji4, hji4⟩ : ∃ j_ : Int, (shl .i64 1 a0) = j_ := ⟨_, rfl⟩
   replace H : (if x6_1 < (ji4) then ((spec_rwMake.f k1 a0 x6_1).bind fun t203 => (spec_pzAll.l1 k1 a0 l1 x5_1 x6_1 t203 true l1 (l1.length : Int) 0)) else (some x5_1)) = some r := by first | (rw [hji4] at H; exact H) | (simp only [hji4] at H ⊢; exact H)
   have hji4_ : (IntKind.i64.wrap (1 * 2 ^ min a0.toNat 64)) = ji4 := hji4
   have hji4z : a0 ≤ 64 → (IntKind.i64.wrap (1 * 2 ^ a0.toNat)) = ji4 := shl_small hji4
   have hji4u : (IntKind.i64.wrap (2 ^ min a0.toNat 64)) = ji4 := by have h_ := hji4_; rw [Int.one_mul] at h_; exact h_
   have hji4v : a0 ≤ 64 → (IntKind.i64.wrap (2 ^ a0.toNat)) = ji4 := fun hle_ => by have h_ := hji4z hle_; rw [Int.one_mul] at h_; exact h_
   have hji4y : (wrap64 (1 * 2 ^ min a0.toNat 64)) = ji4 := (i64_w _).symm.trans hji4_
   have hji4x : a0 ≤ 64 → (wrap64 (1 * 2 ^ a0.toNat)) = ji4 := fun h_ => (i64_w _).symm.trans (hji4z h_)
   by_cases c5 : x6_1 < (ji4)
   ·rw [if_pos c5] at H
    have c5b0 := decide_eq_true c5
    clear c5
    obtain ⟨t203, A6, H⟩ := ob H
    (try dsimp only at H)
    have H' := Aside0.mk H
    clear H
    go_wp2_with (first | ((with_reducible refine gc 57 ?_); refine gl (some 19) Tryz.func57 #[.int .i64 a0, .int .i64 x6_1] ?_; (with_reducible refine (spec_rwMake.calls k1 a0 x6_1 t203 _ A6.out).mono ?_); rintro e w' ⟨rfl, ⟨nd, rfl⟩⟩; refine ⟨_, rfl, ?_⟩))
    go_loopg [8, 22] k1 (fun kq v8 v22 w' => ∃ (x8_2 : Bool) (x22_2 : Int), v8 = .bool x8_2 ∧ v22 = .int .i64 x22_2 ∧ Aside0 (spec_pzAll.l1 kq a0 l1 x5_1 x6_1 t203 x8_2 l1 (l1.length : Int) x22_2 = some r) ∧ Aside0 (kq ≤ k1) ∧ Aside0 (Kd.R Kd.string 9 w' w.heap.size (fun _ => True) u5 x5_1) ∧ Aside0 (Below w.heap.size w w'))
    case atStart => exact ⟨(true), (0), (rs), (rs), H', ⟨Nat.le_refl _⟩, ⟨pr HO_5⟩, ⟨bw⟩⟩
    case round =>
     clear H'
     try clear c1
     try clear p2
     try clear c3
     try clear c3b0
     try clear c3b1
     try clear c5
     try clear c5b0
     try clear p6
     try clear p2
     obtain ⟨x8_2, x22_2, rfl, rfl, HA, HK2, HO_5, HB⟩ := hrel
     cases gk with
     | zero => exact absurd HA.out (by simp [spec_pzAll.l1])
     | succ k2 =>
      have H := HA.out
      clear HA
      simp only [spec_pzAll.l1] at H
      by_cases c7 : x22_2 < (l1.length : Int)
      ·rw [if_pos c7] at H
       have c7b0 := decide_eq_true c7
       clear c7
       obtain ⟨c8, H⟩ := oi H
       have c8b0 := decide_eq_true c8
       clear c8
       obtain ⟨c9, H⟩ := oi H
       have c9b0 := decide_eq_true c9
       clear c9
       by_cases c10 : x8_2 = true
       ·subst c10
        rw [if_pos rfl] at H
        obtain ⟨t206, A11, H⟩ := ob H
        (try dsimp only at H)
        have H' := Aside0.mk H
        clear H
        have p204 : 0 ≤ (x22_2 : Int) := of_decide_eq_true asm
        have q204 : x22_2 < (l1.length : Int) := of_decide_eq_true asm
        obtain ⟨ad204, e204, hx204_0, hx204_1, hx204_2, hx204_3⟩ := at_T42 HR1.out x22_2 p204 q204
        cases e204
        replace hx204_0 := (HB.out.cell (World.block_lt_of_cell? w _ hx204_0)).trans hx204_0
        replace hx204_1 := (HB.out.cell (World.block_lt_of_cell? w _ hx204_1)).trans hx204_1
        replace hx204_2 := (HB.out.cell (World.block_lt_of_cell? w _ hx204_2)).trans hx204_2
        replace hx204_3 := (HB.out.cell (World.block_lt_of_cell? w _ hx204_3)).trans hx204_3
        replace p204 := eq_true p204
        replace q204 := eq_true q204
        go_wp2_with (first | ((with_reducible refine gd 10 ?_); refine bx 10 42 #[.int .i64 0, .int .i64 0, .int .i64 0, .int .i64 0] ?_; intro gb205 hg w12 hbox hb; replace HO_5 := rl HO_5 hb; have BK205 := hbox; have GW205 := gs hg; have GE205 := gs hg; replace HB := bs hb; clear hb hbox hg; have hz13 := z4 BK205) | (go_at_call 58; (with_reducible refine (spec_pzFits.calls k2 ((rd_T42 l1 x22_2).f0) ((rd_T42 l1 x22_2).f1) ((rd_T42 l1 x22_2).f2) ((rd_T42 l1 x22_2).f3) t203 t206 _ A11.out).mono ?_); rintro e w14 ⟨rfl, hb⟩; replace HO_5 := Aside0.mk (Kd.R_below (by (with_reducible repeat (first | apply Kd.R_alloc | apply Kd.R_drewN | apply Kd.R_drew)); exact (Kd.R_mono (Kd.R_far (p := ⟨gb205, 3, none⟩) (Kd.R_far (p := ⟨gb205, 2, none⟩) (Kd.R_far (p := ⟨gb205, 1, none⟩) (Kd.R_far (p := ⟨gb205, 0, none⟩) (Kd.R_types HO_5.out BK205.out (by decide)) (fun _ hk => hk.2) (.int .i64 ((rd_T42 l1 x22_2).f0))) (fun _ hk => hk.2) (.int .i64 ((rd_T42 l1 x22_2).f1))) (fun _ hk => hk.2) (.int .i64 ((rd_T42 l1 x22_2).f2))) (fun _ hk => hk.2) (.int .i64 ((rd_T42 l1 x22_2).f3))) (fun _ h_ => h_.1))) hb); replace BK205 := Aside0.mk (blk_below (g := gb205) (o := .cells #[.int .i64 ((rd_T42 l1 x22_2).f0), .int .i64 ((rd_T42 l1 x22_2).f1), .int .i64 ((rd_T42 l1 x22_2).f2), .int .i64 ((rd_T42 l1 x22_2).f3)] 42 (0, 0)) (pz BK205) hb); replace HB := bs hb; (try clear hb)))
        go_roundg k2
        case measure => have := HK1.out; have := HK2.out; omega
        case rel => exact ⟨(t206), (wrap64 (x22_2 + 1)), (rs), (rs), H', ⟨by have := HK1.out; have := HK2.out; omega⟩, ⟨pr HO_5⟩, ⟨bw⟩⟩
       replace c10 := Bool.eq_false_iff.mpr c10
       subst c10
       rw [if_neg (show ¬ (false = true) by decide)] at H
       have H' := Aside0.mk H
       clear H
       have p204 : 0 ≤ (x22_2 : Int) := of_decide_eq_true asm
       have q204 : x22_2 < (l1.length : Int) := of_decide_eq_true asm
       obtain ⟨ad204, e204, hx204_0, hx204_1, hx204_2, hx204_3⟩ := at_T42 HR1.out x22_2 p204 q204
       cases e204
       replace hx204_0 := (HB.out.cell (World.block_lt_of_cell? w _ hx204_0)).trans hx204_0
       replace hx204_1 := (HB.out.cell (World.block_lt_of_cell? w _ hx204_1)).trans hx204_1
       replace hx204_2 := (HB.out.cell (World.block_lt_of_cell? w _ hx204_2)).trans hx204_2
       replace hx204_3 := (HB.out.cell (World.block_lt_of_cell? w _ hx204_3)).trans hx204_3
       replace p204 := eq_true p204
       replace q204 := eq_true q204
       go_wp2_with (first | ((with_reducible refine gd 10 ?_); refine bx 10 42 #[.int .i64 0, .int .i64 0, .int .i64 0, .int .i64 0] ?_; intro gb205 hg w15 hbox hb; replace HO_5 := rl HO_5 hb; have BK205 := hbox; have GW205 := gs hg; have GE205 := gs hg; replace HB := bs hb; clear hb hbox hg; have hz16 := z4 BK205))
       go_roundg k2
       case measure => have := HK1.out; have := HK2.out; omega
       case rel => exact ⟨(false), (wrap64 (x22_2 + 1)), (rs), (rs), H', ⟨by have := HK1.out; have := HK2.out; omega⟩, ⟨by (with_reducible repeat (first | apply Kd.R_alloc | apply Kd.R_drewN | apply Kd.R_drew)); exact Kd.R_mono (Kd.R_far (p := ⟨gb205, 3, none⟩) (Kd.R_far (p := ⟨gb205, 2, none⟩) (Kd.R_far (p := ⟨gb205, 1, none⟩) (Kd.R_far (p := ⟨gb205, 0, none⟩) (Kd.R_types HO_5.out BK205.out (by decide)) (fun _ hk => hk.2) (.int .i64 ((rd_T42 l1 x22_2).f0))) (fun _ hk => hk.2) (.int .i64 ((rd_T42 l1 x22_2).f1))) (fun _ hk => hk.2) (.int .i64 ((rd_T42 l1 x22_2).f2))) (fun _ hk => hk.2) (.int .i64 ((rd_T42 l1 x22_2).f3))) (fun _ hk => trivial)⟩, ⟨bw⟩⟩
      rw [if_neg c7] at H
      have c7b0 := decide_eq_false c7
      clear c7
      by_cases c17 : x8_2 = true
      ·subst c17
       rw [if_pos rfl] at H
       obtain ⟨c18, H⟩ := oi H
       have LMc18 := Aside0.mk c18
       clear c18
       obtain ⟨y207, hy207⟩ : ∃ y_ : List ByteArray, y_ = (x5_1 ++ [t203]) := ⟨_, rfl⟩
       replace H : (spec_pzAll.l0 k2 a0 l1 y207 (wrap64 (x6_1 + 1))) = some r := by first | (rw [hy207]; with_reducible exact H) | (have H2_ := (Option.bind_some _ _).symm.trans H; rw [hy207]; with_reducible exact H2_) | (have H2_ := (Option.bind_some _ _).symm.trans H; with_reducible exact H2_) | with_reducible exact H | (rw [hy207]; exact H) | exact H
       have Ny207 := Aside0.mk hy207
       clear hy207
       have H' := Aside0.mk H
       clear H
       go_wp2_with (first | ((with_reducible refine gate_builtin (b := .append) (xs := #[.tmp 34, .tmp 36]) rfl ?_); at_builtin; refine Kd.R_append Kd.string (w0 := w) w.heap.size rfl (.tmp 34) (.tmp 36) 25 9 (.string ⟨#[]⟩) 16 rfl Tryz.underlying25 info9 rfl (by decide) (by omega) u5 x5_1 t203 [.string t203] (fun _ => True) (fun _ => False) rfl rfl ?aP (fun _ hk => hk.elim) ?aF ?aO ?aB ?aS ?aL ?_; (case aP => exact rfl); (case aB => exact bw); (case aF => exact (fun _ _ => trivial)); (case aO => exact (pr HO_5)); (case aS => exact (below_size bw)); (case aL => have := LMc18.out; omega); intro v208 w19 ho hb hg hat; rw [← Ny207.out] at ho; have n0_ := Aside0.mk (hb); have n1_ := Aside0.mk (ho); clear HB; clear HO_5; have HB := n0_; have HO209 := n1_; clear n0_ n1_; clear ho hb hg hat))
       go_roundg k2
       case measure => have := HK1.out; have := HK2.out; omega
       case rel => exact ⟨(y207), (wrap64 (x6_1 + 1)), (rs), H', ⟨by have := HK1.out; have := HK2.out; omega⟩, ⟨pr HO209⟩, ⟨bw⟩⟩
      replace c17 := Bool.eq_false_iff.mpr c17
      subst c17
      rw [if_neg (show ¬ (false = true) by decide)] at H
      have H' := Aside0.mk H
      clear H
      go_wp2
      go_roundg k2
      case measure => have := HK1.out; have := HK2.out; omega
      case rel => exact ⟨(x5_1), (wrap64 (x6_1 + 1)), (rs), H', ⟨by have := HK1.out; have := HK2.out; omega⟩, ⟨pr HO_5⟩, ⟨bw⟩⟩
   rw [if_neg c5] at H
   have c5b0 := decide_eq_false c5
   clear c5
   obtain rfl := Option.some.inj H
   go_wp2
   go_ret
   exact ⟨_, by first | rfl | (simp [errW_none, errW_some] <;> rfl) | (simp only [← hji4]; first | rfl | (simp [errW_none, errW_some] <;> rfl)) | (simp [*, errW_none, errW_some] <;> rfl), pr HO_5, bw⟩
/-! ### spec_Solutions: function 5 -/
def spec_Solutions.f (k : Nat) (a0_0 : Int) (l0_1 : List (S42)) : Option (List ByteArray × Bool) := (spec_pzGood.f k a0_0 l0_1).bind fun t211 => (if t211 = true then ((spec_pzAll.f k a0_0 l0_1).bind fun t212 => (some (t212, true))) else (some (([] : List ByteArray), false)))
theorem spec_Solutions.mono : ∀ a0 a1 k, LeO (spec_Solutions.f k a0 a1) (spec_Solutions.f (k + 1) a0 a1) := by
  intro a0 a1 k
  unfold spec_Solutions.f
  repeat' first
      | (with_reducible exact spec_pzAll.mono _ _ _)
      | (with_reducible exact spec_pzGood.mono _ _ _)
      | (with_reducible exact LeO.refl _)
      | (with_reducible exact LeO.none _)
      | (with_reducible refine LeO.ite ?_ ?_)
      | (with_reducible refine LeO.bind ?_ (fun _ => ?_))
      | exact spec_pzAll.mono _ _ _
      | exact spec_pzGood.mono _ _ _
      | exact LeO.none _
      | refine LeO.ite ?_ ?_
      | refine LeO.bind ?_ (fun _ => ?_)
set_option maxHeartbeats 8000000 in
set_option maxRecDepth 100000 in
theorem spec_Solutions.calls (k : Nat) (a0_0 : Int) (A0_1 : Option Addr) (c0_1 : Nat) (l0_1 : List (S42)) (r1 : List ByteArray) (r2 : Bool) (w : World) (hr0_1 : Kd.C k42 w A0_1 l0_1.length l0_1) (hc0_1 : l0_1.length ≤ c0_1) (h : spec_Solutions.f k a0_0 l0_1 = some (r1, r2)) :
  Calls Tryz.prog 5 #[.agg #[.int .i64 a0_0, .slice A0_1 l0_1.length c0_1]] w fun e w' => ∃ v0_ : Value, e = .returned (.tuple #[v0_, .bool r2]) ∧ Kd.R Kd.string 9 w' w.heap.size (fun _ => True) v0_ r1 ∧ Below w.heap.size w w' := by
 have hu24 := Tryz.underlying24
 have HR0_1 := Aside0.mk hr0_1
 have HC0_1 := Aside0.mk hc0_1
 clear hr0_1 hc0_1
 have HB := Aside0.mk (Below.refl w.heap.size w)
 unfold spec_Solutions.f at h
 have H := h
 clear h
 obtain ⟨t211, A2, H⟩ := ob H
 (try dsimp only at H)
 go_enter Tryz.func5, Tryz.ntmps5
 go_wp2_with (((with_reducible refine gd 1 ?_); refine bx 1 24 #[.int .i64 a0_0, .slice A0_1 l0_1.length c0_1] ?_; intro gb210 hg w5 hbox hb; have BK210 := hbox; have GW210 := gs hg; have GE210 := gs hg; replace HB := bs hb; clear hb hbox hg; obtain ⟨hcz6_0, hcz6_1, hfz6_0, hfz6_1⟩ := z2 BK210; refine halt ?_))
 by_cases c3 : t211 = true
 ·subst c3
  rw [if_pos rfl] at H
  obtain ⟨t212, A4, H⟩ := ob H
  (try dsimp only at H)
  simp only [Option.some.injEq, Prod.mk.injEq] at H
  obtain ⟨rfl, rfl⟩ := H
  refine Aside0.mk ?_
  try go_wp2_with (first | ((with_reducible refine gc 35 ?_); refine gl (some 5) Tryz.func35 #[.agg #[.int .i64 a0_0, .slice A0_1 l0_1.length c0_1]] ?_; (with_reducible refine (spec_pzGood.calls k a0_0 _ _ l0_1 true _ ?_ ?_ A2.out).mono ?_); exact cb HR0_1; exact HC0_1.out; rintro e w7 ⟨rfl, hb⟩; refine ⟨_, rfl, ?_⟩; replace BK210 := nk BK210 hb; replace HB := bs hb; (try clear hb); obtain ⟨hcz8_0, hcz8_1, hfz8_0, hfz8_1⟩ := z2 BK210) | ((with_reducible refine gc 36 ?_); refine gl (some 11) Tryz.func36 #[.int .i64 a0_0, .slice A0_1 l0_1.length c0_1] ?_; (with_reducible refine (spec_pzAll.calls k a0_0 _ _ l0_1 t212 _ ?_ ?_ A4.out).mono ?_); exact cb HR0_1; exact HC0_1.out; rintro e w9 ⟨v213, rfl, ho0, hb⟩; refine ⟨_, rfl, ?_⟩; have HO214 := Aside0.mk (Kd.R_lower ho0 (below_size bw)); replace HB := bs hb; (try clear hb); (try clear ho0)))
  go_ret2
  exact ⟨_, rs, pr HO214, bw⟩
 replace c3 := Bool.eq_false_iff.mpr c3
 subst c3
 rw [if_neg (show ¬ (false = true) by decide)] at H
 simp only [Option.some.injEq, Prod.mk.injEq] at H
 obtain ⟨rfl, rfl⟩ := H
 refine Aside0.mk ?_
 try go_wp2_with (((with_reducible refine gc 35 ?_); refine gl (some 5) Tryz.func35 #[.agg #[.int .i64 a0_0, .slice A0_1 l0_1.length c0_1]] ?_; (with_reducible refine (spec_pzGood.calls k a0_0 _ _ l0_1 false _ ?_ ?_ A2.out).mono ?_); exact cb HR0_1; exact HC0_1.out; rintro e w12 ⟨rfl, hb⟩; refine ⟨_, rfl, ?_⟩; replace HB := bs hb; (try clear hb)))
 go_ret2
 exact ⟨_, rs, by first | exact Kd.R_nil _ _ _ _ _ | exact Kd.N_nil _ _ _ _ _ | exact Kd.V_nil _ _ _ _ _ | exact Kd.Q_nil _ _ _ _ _ | exact Kd.S_nil _ _ _ _ _, bw⟩

/-! ### impl_CountSolutions: function 6 -/
def impl_CountSolutions.f (k : Nat) (a0_0 : Int) (l0_1 : List (S42)) : Option (Int × Bool) := (impl_Solutions.f k a0_0 l0_1).bind fun bt216 => (some ((bt216.1.length : Int), bt216.2))
theorem impl_CountSolutions.mono : ∀ a0 a1 k, LeO (impl_CountSolutions.f k a0 a1) (impl_CountSolutions.f (k + 1) a0 a1) := by
  intro a0 a1 k
  unfold impl_CountSolutions.f
  repeat' first
      | (with_reducible exact impl_Solutions.mono _ _ _)
      | (with_reducible exact LeO.refl _)
      | (with_reducible exact LeO.none _)
      | (with_reducible refine LeO.ite ?_ ?_)
      | (with_reducible refine LeO.bind ?_ (fun _ => ?_))
      | exact impl_Solutions.mono _ _ _
      | exact LeO.none _
      | refine LeO.ite ?_ ?_
      | refine LeO.bind ?_ (fun _ => ?_)
set_option maxHeartbeats 8000000 in
set_option maxRecDepth 100000 in
theorem impl_CountSolutions.calls (k : Nat) (a0_0 : Int) (A0_1 : Option Addr) (c0_1 : Nat) (l0_1 : List (S42)) (r1 : Int) (r2 : Bool) (w : World) (hm : Dr.Tab w) (hr0_1 : Kd.C k42 w A0_1 l0_1.length l0_1) (hc0_1 : l0_1.length ≤ c0_1) (h : impl_CountSolutions.f k a0_0 l0_1 = some (r1, r2)) :
  Calls Tryz.prog 6 #[.agg #[.int .i64 a0_0, .slice A0_1 l0_1.length c0_1]] w fun e w' => e = .returned (.tuple #[.int .i64 r1, .bool r2]) ∧ Below w.heap.size w w' := by
 have hu24 := Tryz.underlying24
 have HR0_1 := Aside0.mk hr0_1
 have HC0_1 := Aside0.mk hc0_1
 clear hr0_1 hc0_1
 have HB := Aside0.mk (Below.refl w.heap.size w)
 have HMM := Aside0.mk hm
 clear hm
 unfold impl_CountSolutions.f at h
 have H := h
 clear h
 obtain ⟨⟨t216, t219⟩, A2, H⟩ := ob H
 (try dsimp only at H)
 simp only [Option.some.injEq, Prod.mk.injEq] at H
 obtain ⟨rfl, rfl⟩ := H
 go_enter Tryz.func6, Tryz.ntmps6
 go_wp2_with (first | ((with_reducible refine gd 1 ?_); refine bx 1 24 #[.int .i64 a0_0, .slice A0_1 l0_1.length c0_1] ?_; intro gb215 hg w3 hbox hb; have BK215 := hbox; have GW215 := gs hg; have GE215 := gs hg; replace HB := bs hb; clear hb hbox hg; have hz4 := z2 BK215) | ((with_reducible refine gc 4 ?_); refine gl (some 8) Tryz.func4 #[.agg #[.int .i64 a0_0, .slice A0_1 l0_1.length c0_1]] ?_; (with_reducible refine (impl_Solutions.calls k a0_0 _ _ l0_1 t216 t219 _ ?_ ?_ ?_ A2.out).mono ?_); exact Dr.mm HMM; exact cb HR0_1; exact HC0_1.out; rintro e w5 ⟨v217, rfl, ho0, hb⟩; refine ⟨_, rfl, ?_⟩; have HO218 := Aside0.mk (Kd.R_lower ho0 (below_size bw)); replace HB := bs hb; (try clear hb); (try clear ho0); obtain ⟨Ao6, co6, eo6⟩ := Kd.R_slice HO218.out; subst eo6))
 go_ret2
 exact ⟨rs, bw⟩

/-! ### spec_CountSolutions: function 7 -/
def spec_CountSolutions.f (k : Nat) (a0_0 : Int) (l0_1 : List (S42)) : Option (Int × Bool) := (spec_pzGood.f k a0_0 l0_1).bind fun t221 => (if t221 = true then ((spec_pzAll.f k a0_0 l0_1).bind fun t222 => (some ((t222.length : Int), true))) else (some (0, false)))
theorem spec_CountSolutions.mono : ∀ a0 a1 k, LeO (spec_CountSolutions.f k a0 a1) (spec_CountSolutions.f (k + 1) a0 a1) := by
  intro a0 a1 k
  unfold spec_CountSolutions.f
  repeat' first
      | (with_reducible exact spec_pzAll.mono _ _ _)
      | (with_reducible exact spec_pzGood.mono _ _ _)
      | (with_reducible exact LeO.refl _)
      | (with_reducible exact LeO.none _)
      | (with_reducible refine LeO.ite ?_ ?_)
      | (with_reducible refine LeO.bind ?_ (fun _ => ?_))
      | exact spec_pzAll.mono _ _ _
      | exact spec_pzGood.mono _ _ _
      | exact LeO.none _
      | refine LeO.ite ?_ ?_
      | refine LeO.bind ?_ (fun _ => ?_)
set_option maxHeartbeats 8000000 in
set_option maxRecDepth 100000 in
theorem spec_CountSolutions.calls (k : Nat) (a0_0 : Int) (A0_1 : Option Addr) (c0_1 : Nat) (l0_1 : List (S42)) (r1 : Int) (r2 : Bool) (w : World) (hr0_1 : Kd.C k42 w A0_1 l0_1.length l0_1) (hc0_1 : l0_1.length ≤ c0_1) (h : spec_CountSolutions.f k a0_0 l0_1 = some (r1, r2)) :
  Calls Tryz.prog 7 #[.agg #[.int .i64 a0_0, .slice A0_1 l0_1.length c0_1]] w fun e w' => e = .returned (.tuple #[.int .i64 r1, .bool r2]) ∧ Below w.heap.size w w' := by
 have hu24 := Tryz.underlying24
 have HR0_1 := Aside0.mk hr0_1
 have HC0_1 := Aside0.mk hc0_1
 clear hr0_1 hc0_1
 have HB := Aside0.mk (Below.refl w.heap.size w)
 unfold spec_CountSolutions.f at h
 have H := h
 clear h
 obtain ⟨t221, A2, H⟩ := ob H
 (try dsimp only at H)
 go_enter Tryz.func7, Tryz.ntmps7
 go_wp2_with (((with_reducible refine gd 1 ?_); refine bx 1 24 #[.int .i64 a0_0, .slice A0_1 l0_1.length c0_1] ?_; intro gb220 hg w5 hbox hb; have BK220 := hbox; have GW220 := gs hg; have GE220 := gs hg; replace HB := bs hb; clear hb hbox hg; obtain ⟨hcz6_0, hcz6_1, hfz6_0, hfz6_1⟩ := z2 BK220; refine halt ?_))
 by_cases c3 : t221 = true
 ·subst c3
  rw [if_pos rfl] at H
  obtain ⟨t222, A4, H⟩ := ob H
  (try dsimp only at H)
  simp only [Option.some.injEq, Prod.mk.injEq] at H
  obtain ⟨rfl, rfl⟩ := H
  refine Aside0.mk ?_
  try go_wp2_with (first | ((with_reducible refine gc 35 ?_); refine gl (some 5) Tryz.func35 #[.agg #[.int .i64 a0_0, .slice A0_1 l0_1.length c0_1]] ?_; (with_reducible refine (spec_pzGood.calls k a0_0 _ _ l0_1 true _ ?_ ?_ A2.out).mono ?_); exact cb HR0_1; exact HC0_1.out; rintro e w7 ⟨rfl, hb⟩; refine ⟨_, rfl, ?_⟩; replace BK220 := nk BK220 hb; replace HB := bs hb; (try clear hb); obtain ⟨hcz8_0, hcz8_1, hfz8_0, hfz8_1⟩ := z2 BK220) | ((with_reducible refine gc 36 ?_); refine gl (some 11) Tryz.func36 #[.int .i64 a0_0, .slice A0_1 l0_1.length c0_1] ?_; (with_reducible refine (spec_pzAll.calls k a0_0 _ _ l0_1 t222 _ ?_ ?_ A4.out).mono ?_); exact cb HR0_1; exact HC0_1.out; rintro e w9 ⟨v223, rfl, ho0, hb⟩; refine ⟨_, rfl, ?_⟩; have HO224 := Aside0.mk (Kd.R_lower ho0 (below_size bw)); replace HB := bs hb; (try clear hb); (try clear ho0); obtain ⟨Ao10, co10, eo10⟩ := Kd.R_slice HO224.out; subst eo10))
  go_ret2
  exact ⟨rs, bw⟩
 replace c3 := Bool.eq_false_iff.mpr c3
 subst c3
 rw [if_neg (show ¬ (false = true) by decide)] at H
 simp only [Option.some.injEq, Prod.mk.injEq] at H
 obtain ⟨rfl, rfl⟩ := H
 refine Aside0.mk ?_
 try go_wp2_with (((with_reducible refine gc 35 ?_); refine gl (some 5) Tryz.func35 #[.agg #[.int .i64 a0_0, .slice A0_1 l0_1.length c0_1]] ?_; (with_reducible refine (spec_pzGood.calls k a0_0 _ _ l0_1 false _ ?_ ?_ A2.out).mono ?_); exact cb HR0_1; exact HC0_1.out; rintro e w13 ⟨rfl, hb⟩; refine ⟨_, rfl, ?_⟩; replace HB := bs hb; (try clear hb)))
 go_ret2
 exact ⟨rs, bw⟩

/-! ### impl_FirstSolution: function 8 -/
def impl_FirstSolution.f (k : Nat) (a0_0 : Int) (l0_1 : List (S42)) : Option (ByteArray × Bool) := (impl_Solutions.f k a0_0 l0_1).bind fun bt226 => (if bt226.2 = true then (if (bt226.1.length : Int) = 0 then (some ((⟨#[]⟩ : ByteArray), false)) else (if 0 < (bt226.1.length : Int) then (some (rdOf ByteArray.empty bt226.1 0, true)) else (none))) else (some ((⟨#[]⟩ : ByteArray), false)))
theorem impl_FirstSolution.mono : ∀ a0 a1 k, LeO (impl_FirstSolution.f k a0 a1) (impl_FirstSolution.f (k + 1) a0 a1) := by
  intro a0 a1 k
  unfold impl_FirstSolution.f
  repeat' first
      | (with_reducible exact impl_Solutions.mono _ _ _)
      | (with_reducible exact LeO.refl _)
      | (with_reducible exact LeO.none _)
      | (with_reducible refine LeO.ite ?_ ?_)
      | (with_reducible refine LeO.bind ?_ (fun _ => ?_))
      | exact impl_Solutions.mono _ _ _
      | exact LeO.none _
      | refine LeO.ite ?_ ?_
      | refine LeO.bind ?_ (fun _ => ?_)
set_option maxHeartbeats 8000000 in
set_option maxRecDepth 100000 in
theorem impl_FirstSolution.calls (k : Nat) (a0_0 : Int) (A0_1 : Option Addr) (c0_1 : Nat) (l0_1 : List (S42)) (r1 : ByteArray) (r2 : Bool) (w : World) (hm : Dr.Tab w) (hr0_1 : Kd.C k42 w A0_1 l0_1.length l0_1) (hc0_1 : l0_1.length ≤ c0_1) (h : impl_FirstSolution.f k a0_0 l0_1 = some (r1, r2)) :
  Calls Tryz.prog 8 #[.agg #[.int .i64 a0_0, .slice A0_1 l0_1.length c0_1]] w fun e w' => e = .returned (.tuple #[.string r1, .bool r2]) ∧ Below w.heap.size w w' := by
 have hu24 := Tryz.underlying24
 have HR0_1 := Aside0.mk hr0_1
 have HC0_1 := Aside0.mk hc0_1
 clear hr0_1 hc0_1
 have HB := Aside0.mk (Below.refl w.heap.size w)
 have HMM := Aside0.mk hm
 clear hm
 unfold impl_FirstSolution.f at h
 have H := h
 clear h
 obtain ⟨⟨t226, t229⟩, A2, H⟩ := ob H
 (try dsimp only at H)
 by_cases c3 : t229 = true
 ·subst c3
  rw [if_pos rfl] at H
  go_enter Tryz.func8, Tryz.ntmps8
  go_wp2_with (((with_reducible refine gd 1 ?_); (try (refine gate_guard (by rfl) ?_; dsimp only)); refine bx 1 24 #[.int .i64 a0_0, .slice A0_1 l0_1.length c0_1] ?_; intro gb225 hg w5 hbox hb; have BK225 := hbox; have GW225 := gs hg; have GE225 := gs hg; replace HB := bs hb; clear hb hbox hg; obtain ⟨hcz6_0, hcz6_1, hfz6_0, hfz6_1⟩ := z2 BK225; refine halt ?_))
  by_cases c4 : (t226.length : Int) = 0
  ·rw [if_pos c4] at H
   have c4b0 : ((t226.length : Int) == 0) = true := beq_iff_eq.mpr c4
   have c4b1 : ((t226.length : Int) != 0) = false := bne_eq_false_iff_eq.mpr c4
   clear c4
   simp only [Option.some.injEq, Prod.mk.injEq] at H
   obtain ⟨rfl, rfl⟩ := H
   refine Aside0.mk ?_
   try go_wp2_with (((with_reducible refine gc 4 ?_); refine gl (some 8) Tryz.func4 #[.agg #[.int .i64 a0_0, .slice A0_1 l0_1.length c0_1]] ?_; (with_reducible refine (impl_Solutions.calls k a0_0 _ _ l0_1 t226 true _ ?_ ?_ ?_ A2.out).mono ?_); exact Dr.mm HMM; exact cb HR0_1; exact HC0_1.out; rintro e w7 ⟨v227, rfl, ho0, hb⟩; refine ⟨_, rfl, ?_⟩; have HO228 := Aside0.mk (Kd.R_lower ho0 (below_size bw)); replace HB := bs hb; (try clear hb); (try clear ho0); obtain ⟨Ao8, co8, eo8⟩ := Kd.R_slice HO228.out; subst eo8))
   go_ret2
   exact ⟨rs, bw⟩
  rw [if_neg c4] at H
  have c4b0 : ((t226.length : Int) == 0) = false := beq_eq_false_iff_ne.mpr c4
  have c4b1 : ((t226.length : Int) != 0) = true := bne_iff_ne.mpr c4
  have c4b2 : ¬ (t226 = []) := fun h_ => c4 (by rw [h_]; rfl)
  obtain ⟨c9, H⟩ := oi H
  have c9b0 := decide_eq_true c9
  have c9b1 : decide (0 < t226.length) = true := decide_eq_true (by omega)
  clear c9
  simp only [Option.some.injEq, Prod.mk.injEq] at H
  obtain ⟨rfl, rfl⟩ := H
  refine Aside0.mk ?_
  try go_wp2_with (((with_reducible refine gc 4 ?_); refine gl (some 8) Tryz.func4 #[.agg #[.int .i64 a0_0, .slice A0_1 l0_1.length c0_1]] ?_; (with_reducible refine (impl_Solutions.calls k a0_0 _ _ l0_1 t226 true _ ?_ ?_ ?_ A2.out).mono ?_); exact Dr.mm HMM; exact cb HR0_1; exact HC0_1.out; rintro e w12 ⟨v227, rfl, ho0, hb⟩; refine ⟨_, rfl, ?_⟩; have HO228 := Aside0.mk (Kd.R_lower ho0 (below_size bw)); replace HB := bs hb; (try clear hb); (try clear ho0); obtain ⟨Ao13, co13, eo13⟩ := Kd.R_slice HO228.out; subst eo13; have p230 : 0 ≤ (0 : Int) := (by omega); have q230 : 0 < (t226.length : Int) := of_decide_eq_true asm; obtain ⟨ad230, e230, hx230_0⟩ := Kd.at_string (Kd.R_reads' HO228.out).2.2 0 p230 q230; cases e230; have qi230 : (0 < t226.length) = True := eq_true (by omega); (try rw [show ((0 : Int)).toNat = 0 from rfl] at hx230_0); (try rw [Addr.add_zero'] at hx230_0); replace p230 := eq_true p230; replace q230 := eq_true q230))
  go_ret2
  exact ⟨rs, bw⟩
 replace c3 := Bool.eq_false_iff.mpr c3
 subst c3
 rw [if_neg (show ¬ (false = true) by decide)] at H
 simp only [Option.some.injEq, Prod.mk.injEq] at H
 obtain ⟨rfl, rfl⟩ := H
 go_enter Tryz.func8, Tryz.ntmps8
 go_wp2_with (first | ((with_reducible refine gd 1 ?_); (try (refine gate_guard (by rfl) ?_; dsimp only)); refine bx 1 24 #[.int .i64 a0_0, .slice A0_1 l0_1.length c0_1] ?_; intro gb225 hg w14 hbox hb; have BK225 := hbox; have GW225 := gs hg; have GE225 := gs hg; replace HB := bs hb; clear hb hbox hg; have hz15 := z2 BK225) | ((with_reducible refine gc 4 ?_); refine gl (some 8) Tryz.func4 #[.agg #[.int .i64 a0_0, .slice A0_1 l0_1.length c0_1]] ?_; (with_reducible refine (impl_Solutions.calls k a0_0 _ _ l0_1 t226 false _ ?_ ?_ ?_ A2.out).mono ?_); exact Dr.mm HMM; exact cb HR0_1; exact HC0_1.out; rintro e w16 ⟨v227, rfl, ho0, hb⟩; refine ⟨_, rfl, ?_⟩; have HO228 := Aside0.mk (Kd.R_lower ho0 (below_size bw)); replace HB := bs hb; (try clear hb); (try clear ho0)))
 go_ret2
 exact ⟨rs, bw⟩

/-! ### spec_FirstSolution: function 9 -/
def spec_FirstSolution.f (k : Nat) (a0_0 : Int) (l0_1 : List (S42)) : Option (ByteArray × Bool) := (spec_pzGood.f k a0_0 l0_1).bind fun t232 => (if t232 = true then ((spec_pzAll.f k a0_0 l0_1).bind fun t233 => (if (t233.length : Int) = 0 then (some ((⟨#[]⟩ : ByteArray), false)) else (if 0 < (t233.length : Int) then (some (rdOf ByteArray.empty t233 0, true)) else (none)))) else (some ((⟨#[]⟩ : ByteArray), false)))
theorem spec_FirstSolution.mono : ∀ a0 a1 k, LeO (spec_FirstSolution.f k a0 a1) (spec_FirstSolution.f (k + 1) a0 a1) := by
  intro a0 a1 k
  unfold spec_FirstSolution.f
  repeat' first
      | (with_reducible exact spec_pzAll.mono _ _ _)
      | (with_reducible exact spec_pzGood.mono _ _ _)
      | (with_reducible exact LeO.refl _)
      | (with_reducible exact LeO.none _)
      | (with_reducible refine LeO.ite ?_ ?_)
      | (with_reducible refine LeO.bind ?_ (fun _ => ?_))
      | exact spec_pzAll.mono _ _ _
      | exact spec_pzGood.mono _ _ _
      | exact LeO.none _
      | refine LeO.ite ?_ ?_
      | refine LeO.bind ?_ (fun _ => ?_)
set_option maxHeartbeats 8000000 in
set_option maxRecDepth 100000 in
theorem spec_FirstSolution.calls (k : Nat) (a0_0 : Int) (A0_1 : Option Addr) (c0_1 : Nat) (l0_1 : List (S42)) (r1 : ByteArray) (r2 : Bool) (w : World) (hr0_1 : Kd.C k42 w A0_1 l0_1.length l0_1) (hc0_1 : l0_1.length ≤ c0_1) (h : spec_FirstSolution.f k a0_0 l0_1 = some (r1, r2)) :
  Calls Tryz.prog 9 #[.agg #[.int .i64 a0_0, .slice A0_1 l0_1.length c0_1]] w fun e w' => e = .returned (.tuple #[.string r1, .bool r2]) ∧ Below w.heap.size w w' := by
 have hu24 := Tryz.underlying24
 have HR0_1 := Aside0.mk hr0_1
 have HC0_1 := Aside0.mk hc0_1
 clear hr0_1 hc0_1
 have HB := Aside0.mk (Below.refl w.heap.size w)
 unfold spec_FirstSolution.f at h
 have H := h
 clear h
 obtain ⟨t232, A2, H⟩ := ob H
 (try dsimp only at H)
 go_enter Tryz.func9, Tryz.ntmps9
 go_wp2_with (((with_reducible refine gd 1 ?_); refine bx 1 24 #[.int .i64 a0_0, .slice A0_1 l0_1.length c0_1] ?_; intro gb231 hg w6 hbox hb; have BK231 := hbox; have GW231 := gs hg; have GE231 := gs hg; replace HB := bs hb; clear hb hbox hg; have hz7 := z2 BK231; refine halt ?_))
 by_cases c3 : t232 = true
 ·subst c3
  rw [if_pos rfl] at H
  obtain ⟨t233, A4, H⟩ := ob H
  (try dsimp only at H)
  refine Aside0.mk ?_
  try go_wp2_with (((with_reducible refine gc 35 ?_); refine gl (some 6) Tryz.func35 #[.agg #[.int .i64 a0_0, .slice A0_1 l0_1.length c0_1]] ?_; (with_reducible refine (spec_pzGood.calls k a0_0 _ _ l0_1 true _ ?_ ?_ A2.out).mono ?_); exact cb HR0_1; exact HC0_1.out; rintro e w8 ⟨rfl, hb⟩; refine ⟨_, rfl, ?_⟩; replace BK231 := nk BK231 hb; replace HB := bs hb; (try clear hb); have hz9 := z2 BK231; refine halt ?_))
  by_cases c5 : (t233.length : Int) = 0
  ·rw [if_pos c5] at H
   have c5b0 : ((t233.length : Int) == 0) = true := beq_iff_eq.mpr c5
   have c5b1 : ((t233.length : Int) != 0) = false := bne_eq_false_iff_eq.mpr c5
   clear c5
   simp only [Option.some.injEq, Prod.mk.injEq] at H
   obtain ⟨rfl, rfl⟩ := H
   refine Aside0.mk ?_
   try go_wp2_with (((with_reducible refine gc 36 ?_); refine gl (some 12) Tryz.func36 #[.int .i64 a0_0, .slice A0_1 l0_1.length c0_1] ?_; (with_reducible refine (spec_pzAll.calls k a0_0 _ _ l0_1 t233 _ ?_ ?_ A4.out).mono ?_); exact cb HR0_1; exact HC0_1.out; rintro e w10 ⟨v234, rfl, ho0, hb⟩; refine ⟨_, rfl, ?_⟩; have HO235 := Aside0.mk (Kd.R_lower ho0 (below_size bw)); replace HB := bs hb; (try clear hb); (try clear ho0); obtain ⟨Ao11, co11, eo11⟩ := Kd.R_slice HO235.out; subst eo11))
   go_ret2
   exact ⟨rs, bw⟩
  rw [if_neg c5] at H
  have c5b0 : ((t233.length : Int) == 0) = false := beq_eq_false_iff_ne.mpr c5
  have c5b1 : ((t233.length : Int) != 0) = true := bne_iff_ne.mpr c5
  have c5b2 : ¬ (t233 = []) := fun h_ => c5 (by rw [h_]; rfl)
  obtain ⟨c12, H⟩ := oi H
  have c12b0 := decide_eq_true c12
  have c12b1 : decide (0 < t233.length) = true := decide_eq_true (by omega)
  clear c12
  simp only [Option.some.injEq, Prod.mk.injEq] at H
  obtain ⟨rfl, rfl⟩ := H
  refine Aside0.mk ?_
  try go_wp2_with (((with_reducible refine gc 36 ?_); refine gl (some 12) Tryz.func36 #[.int .i64 a0_0, .slice A0_1 l0_1.length c0_1] ?_; (with_reducible refine (spec_pzAll.calls k a0_0 _ _ l0_1 t233 _ ?_ ?_ A4.out).mono ?_); exact cb HR0_1; exact HC0_1.out; rintro e w17 ⟨v234, rfl, ho0, hb⟩; refine ⟨_, rfl, ?_⟩; have HO235 := Aside0.mk (Kd.R_lower ho0 (below_size bw)); replace HB := bs hb; (try clear hb); (try clear ho0); obtain ⟨Ao18, co18, eo18⟩ := Kd.R_slice HO235.out; subst eo18; have p236 : 0 ≤ (0 : Int) := (by omega); have q236 : 0 < (t233.length : Int) := of_decide_eq_true asm; obtain ⟨ad236, e236, hx236_0⟩ := Kd.at_string (Kd.R_reads' HO235.out).2.2 0 p236 q236; cases e236; have qi236 : (0 < t233.length) = True := eq_true (by omega); (try rw [show ((0 : Int)).toNat = 0 from rfl] at hx236_0); (try rw [Addr.add_zero'] at hx236_0); replace p236 := eq_true p236; replace q236 := eq_true q236))
  go_ret2
  exact ⟨rs, bw⟩
 replace c3 := Bool.eq_false_iff.mpr c3
 subst c3
 rw [if_neg (show ¬ (false = true) by decide)] at H
 simp only [Option.some.injEq, Prod.mk.injEq] at H
 obtain ⟨rfl, rfl⟩ := H
 refine Aside0.mk ?_
 try go_wp2_with (((with_reducible refine gc 35 ?_); refine gl (some 6) Tryz.func35 #[.agg #[.int .i64 a0_0, .slice A0_1 l0_1.length c0_1]] ?_; (with_reducible refine (spec_pzGood.calls k a0_0 _ _ l0_1 false _ ?_ ?_ A2.out).mono ?_); exact cb HR0_1; exact HC0_1.out; rintro e w21 ⟨rfl, hb⟩; refine ⟨_, rfl, ?_⟩; replace HB := bs hb; (try clear hb)))
 go_ret2
 exact ⟨rs, bw⟩

/-! ### impl_SureSigns: function 10 -/
def impl_SureSigns.l1 : Nat → ByteArray → Int → List Int → Option (List Int)
  | 0, _, _, _ => none
  | k + 1, row, j, o => if j < (o.length : Int) then (if 0 ≤ j then (if j < (row.size : Int) then (if bt row j = rd o j then impl_SureSigns.l1 k row (wrap64 (j + 1)) o else impl_SureSigns.l1 k row (wrap64 (j + 1)) (o.set j.toNat 63)) else none) else none) else some o
def impl_SureSigns.l0 : Nat → List ByteArray → Int → List Int → Option (List Int)
  | 0, _, _, _ => none
  | k + 1, rows, i, o => if i < (rows.length : Int) then (if 0 ≤ i then (impl_SureSigns.l1 k (rdOf ByteArray.empty rows i) 0 o).bind fun o2 => impl_SureSigns.l0 k rows (wrap64 (i + 1)) o2 else none) else some o
theorem impl_SureSigns.mono_l1 : ∀ k, (∀ y0 y1 y2, LeO (impl_SureSigns.l1 k y0 y1 y2) (impl_SureSigns.l1 (k + 1) y0 y1 y2))
  | 0 => fun _ _ _ r h => by simp [impl_SureSigns.l1] at h
  | k + 1 => by
    have ih0 := impl_SureSigns.mono_l1 k
    · intro y0 y1 y2
      unfold impl_SureSigns.l1
      repeat' first
      | (with_reducible exact ih0 _ _ _)
      | (with_reducible exact LeO.refl _)
      | (with_reducible exact LeO.none _)
      | (with_reducible refine LeO.ite ?_ ?_)
theorem impl_SureSigns.mono_l : ∀ k, (∀ y0 y1 y2, LeO (impl_SureSigns.l0 k y0 y1 y2) (impl_SureSigns.l0 (k + 1) y0 y1 y2))
  | 0 => fun _ _ _ r h => by simp [impl_SureSigns.l0] at h
  | k + 1 => by
    have ih0 := impl_SureSigns.mono_l k
    · intro y0 y1 y2
      unfold impl_SureSigns.l0
      repeat' first
      | (with_reducible exact ih0 _ _ _)
      | (with_reducible exact impl_SureSigns.mono_l1 _ _ _ _)
      | (with_reducible exact LeO.refl _)
      | (with_reducible exact LeO.none _)
      | (with_reducible refine LeO.ite ?_ ?_)
      | (with_reducible refine LeO.bind ?_ (fun _ => ?_))
def impl_SureSigns.f (k : Nat) (a0_0 : Int) (l0_1 : List S42) : Option (ByteArray × Bool) := (impl_Solutions.f k a0_0 l0_1).bind fun q => if q.2 = true then (if (q.1.length : Int) = 0 then some (⟨#[]⟩, false) else (if (rdOf ByteArray.empty q.1 0).size ≤ 140737488351232 then (impl_SureSigns.l0 k q.1 0 (bytesOf (rdOf ByteArray.empty q.1 0))).bind fun o => some (strOfNums o, true) else none)) else some (⟨#[]⟩, false)
theorem impl_SureSigns.mono : ∀ a0 a1 k, LeO (impl_SureSigns.f k a0 a1) (impl_SureSigns.f (k + 1) a0 a1) := by
  intro a0 a1 k
  unfold impl_SureSigns.f
  exact LeO.bind (impl_Solutions.mono _ _ k) (fun _ => LeO.ite (LeO.ite (LeO.refl _) (LeO.ite (LeO.bind (impl_SureSigns.mono_l k _ _ _) (fun _ => LeO.refl _)) (LeO.none _))) (LeO.refl _))
/-- The row of bytes that a text was turned into: its first cells are these numbers. -/
def impl_SureSigns_row (w : World) (g c : Nat) (o : List Int) : Prop := ∃ C : Array Value, w.heap[g]? = some (.cells C 5 (C.size, C.size + 1)) ∧ C.size = c ∧ o.length ≤ c ∧ C.toList.take o.length = o.map (Value.int .u8)
theorem impl_SureSigns_rd {w : World} {g c : Nat} {o : List Int} (h : impl_SureSigns_row w g c o) (j : Int) (h0 : 0 ≤ j) (h1 : j < (o.length : Int)) : w.cell? ⟨g, j.toNat, none⟩ = some (.int .u8 (rd o j)) ∧ w.frozen? ⟨g, j.toNat, none⟩ = false := by
  obtain ⟨C, h2, h3, h4, h5⟩ := h
  refine ⟨?_, ?_⟩
  · rw [cell_of_row w g j.toNat C _ _ h2]
    have h6 : (C.toList.take o.length)[j.toNat]? = some (.int .u8 (rd o j)) := by
      rw [h5, List.getElem?_map, List.getElem?_eq_getElem (by omega)]
      simp [rd, show j.toNat < o.length by omega]
    rw [List.getElem?_take, if_pos (by omega)] at h6
    rw [← h6, Array.getElem?_toList]
  · simp [World.frozen?, h2]
    omega
theorem impl_SureSigns_put {w : World} {g c : Nat} {o : List Int} (h : impl_SureSigns_row w g c o) (j : Nat) (v : Int) : impl_SureSigns_row (w.setCell ⟨g, j, none⟩ (.int .u8 v)) g c (o.set j v) := by
  obtain ⟨C, h2, h3, h4, h5⟩ := h
  refine ⟨C.setIfInBounds j (.int .u8 v), by simp [World.setCell, Array.getElem?_modify, h2], by simpa using h3, by simpa using h4, ?_⟩
  rw [List.length_set, Array.toList_setIfInBounds, List.take_set, h5, List.map_set]
theorem impl_SureSigns_new (w : World) (s : ByteArray) : impl_SureSigns_row (Lib.bytesWorld w 5 s) w.heap.size (grownCap w s.size 0 5) (bytesOf s) := by
  have hge := grownCap_ge w s.size 0 5
  have hsz : s.data.size = s.size := rfl
  have hlen : (bytesOf s).length = s.size := by simp [bytesOf]
  refine ⟨_, Lib.bytesWorld_at_new w _ s, ?_, ?_, ?_⟩
  · simp only [Lib.bytesCells, Array.size_append, Array.size_map, Array.size_replicate, hsz]
    omega
  · omega
  · rw [hlen]
    simp only [Lib.bytesCells, Array.toList_append, Array.toList_map]
    rw [List.take_append_of_le_length (by simp), List.take_of_length_le (by simp), bytesOf, List.map_map]
    rfl
theorem impl_SureSigns_below {b0 w : World} (s : ByteArray) (h : Below b0.heap.size b0 w) : Below b0.heap.size b0 (Lib.bytesWorld w 5 s) := by
  refine h.trans ⟨rfl, rfl, rfl, by rw [Lib.bytesWorld_size]; omega, fun j hj => Lib.bytesWorld_at_old w _ s j (Nat.lt_of_lt_of_le hj h.size)⟩
/-- The walk over one row, from a place on. -/
theorem impl_SureSigns_far {w : World} {g c : Nat} {o : List Int} (h : impl_SureSigns_row w g c o) : g < w.heap.size := by
  obtain ⟨C, h2, _⟩ := h
  exact (Array.getElem?_eq_some_iff.1 h2).1
set_option maxHeartbeats 8000000 in
set_option maxRecDepth 100000 in
theorem impl_SureSigns.calls (k : Nat) (a0_0 : Int) (A0_1 : Option Addr) (c0_1 : Nat) (l0_1 : List (S42)) (r1 : ByteArray) (r2 : Bool) (w : World) (hm : Dr.Tab w) (hr0_1 : Kd.C k42 w A0_1 l0_1.length l0_1) (hc0_1 : l0_1.length ≤ c0_1) (h : impl_SureSigns.f k a0_0 l0_1 = some (r1, r2)) :
  Calls Tryz.prog 10 #[.agg #[.int .i64 a0_0, .slice A0_1 l0_1.length c0_1]] w fun e w' => e = .returned (.tuple #[.string r1, .bool r2]) ∧ Below w.heap.size w w' := by
 have hu := Tryz.underlying24
 have HR := Aside0.mk hr0_1
 have HC := Aside0.mk hc0_1
 have HMM := Aside0.mk hm
 have HB := Aside0.mk (Below.refl w.heap.size w)
 clear hr0_1 hc0_1 hm
 unfold impl_SureSigns.f at h
 obtain ⟨⟨rows, ok⟩, A0, h⟩ := Option.bind_eq_some_iff.mp h
 have A1 := Aside0.mk A0
 clear A0
 simp only at h
 cases ok with
 | false =>
  rw [if_neg (by decide)] at h
  simp only [Option.some.injEq, Prod.mk.injEq] at h
  obtain ⟨rfl, rfl⟩ := h
  go_enter Tryz.func10, Tryz.ntmps10
  go_wp2_with (first | ((with_reducible refine gd 1 ?_); refine box_event ?hg (N := 1) ?hd (cs := #[.int .i64 a0_0, .slice A0_1 l0_1.length c0_1]) (t := 24) ?hr ?_; (case hd => rfl); (case hg => rfl); (case hr => first | (go_simp; done) | (go_simp; rfl)); intro gb hg w8 hbox hb; have hcz0 : w8.cell? ⟨gb, 0, none⟩ = some (.int .i64 a0_0) := (blk_cell hbox 0).trans rfl; have hcz1 : w8.cell? ⟨gb, 1, none⟩ = some (.slice A0_1 l0_1.length c0_1) := (blk_cell hbox 1).trans rfl; replace HB := Aside0.mk (below_step HB.out hb); clear hb hbox hg) | (go_at_call 4; (with_reducible refine (impl_Solutions.calls k a0_0 A0_1 c0_1 l0_1 rows _ _ (HMM.out.below HB.out) (Kd.C_below HR.out HB.out) HC.out A1.out).mono ?_); rintro e w3 ⟨v1, rfl, ho, hb⟩; have HO := Aside0.mk ho; replace HB := Aside0.mk (below_step HB.out hb); obtain ⟨Ao, co, eo⟩ := Kd.R_slice HO.out; subst eo; clear ho hb))
  repeat (go_quiet (fail); try go_wp2)
  go_ret2
  exact ⟨rfl, HB.out⟩
 | true =>
  rw [if_pos rfl] at h
  by_cases h0 : (rows.length : Int) = 0
  ·rw [if_pos h0] at h
   have h0b : ((rows.length : Int) == 0) = true := beq_iff_eq.2 h0
   simp only [Option.some.injEq, Prod.mk.injEq] at h
   obtain ⟨rfl, rfl⟩ := h
   go_enter Tryz.func10, Tryz.ntmps10
   go_wp2_with (first | ((with_reducible refine gd 1 ?_); refine box_event ?hg (N := 1) ?hd (cs := #[.int .i64 a0_0, .slice A0_1 l0_1.length c0_1]) (t := 24) ?hr ?_; (case hd => rfl); (case hg => rfl); (case hr => first | (go_simp; done) | (go_simp; rfl)); intro gb hg w8 hbox hb; have hcz0 : w8.cell? ⟨gb, 0, none⟩ = some (.int .i64 a0_0) := (blk_cell hbox 0).trans rfl; have hcz1 : w8.cell? ⟨gb, 1, none⟩ = some (.slice A0_1 l0_1.length c0_1) := (blk_cell hbox 1).trans rfl; replace HB := Aside0.mk (below_step HB.out hb); clear hb hbox hg) | (go_at_call 4; (with_reducible refine (impl_Solutions.calls k a0_0 A0_1 c0_1 l0_1 rows _ _ (HMM.out.below HB.out) (Kd.C_below HR.out HB.out) HC.out A1.out).mono ?_); rintro e w3 ⟨v1, rfl, ho, hb⟩; have HO := Aside0.mk ho; replace HB := Aside0.mk (below_step HB.out hb); obtain ⟨Ao, co, eo⟩ := Kd.R_slice HO.out; subst eo; clear ho hb))
   go_ret2
   exact ⟨rfl, HB.out⟩
  rw [if_neg h0] at h
  have h0b : ((rows.length : Int) == 0) = false := beq_eq_false_iff_ne.2 h0
  by_cases hs : (rdOf ByteArray.empty rows 0).size ≤ 140737488351232
  ·rw [if_pos hs] at h
   obtain ⟨o, A0, h⟩ := Option.bind_eq_some_iff.mp h
   have H' := Aside0.mk A0
   clear A0
   simp only [Option.some.injEq, Prod.mk.injEq] at h
   obtain ⟨rfl, rfl⟩ := h
   have hpos : 0 < rows.length := by omega
   have HS := Aside0.mk hs
   have HP := Aside0.mk hpos
   clear hs h0
   obtain ⟨s0, hs0⟩ : ∃ s0, s0 = rdOf ByteArray.empty rows 0 := ⟨_, rfl⟩
   rw [← hs0] at H' HS
   have hs47 := HS.out
   have HS0 := Aside0.mk hs0
   clear hs0
   go_enter Tryz.func10, Tryz.ntmps10
   go_wp2_with (first | ((with_reducible refine gd 1 ?_); refine box_event ?hg (N := 1) ?hd (cs := #[.int .i64 a0_0, .slice A0_1 l0_1.length c0_1]) (t := 24) ?hr ?_; (case hd => rfl); (case hg => rfl); (case hr => first | (go_simp; done) | (go_simp; rfl)); intro gb hg w8 hbox hb; have hcz0 : w8.cell? ⟨gb, 0, none⟩ = some (.int .i64 a0_0) := (blk_cell hbox 0).trans rfl; have hcz1 : w8.cell? ⟨gb, 1, none⟩ = some (.slice A0_1 l0_1.length c0_1) := (blk_cell hbox 1).trans rfl; replace HB := Aside0.mk (below_step HB.out hb); clear hb hbox hg) | (go_at_call 4; (with_reducible refine (impl_Solutions.calls k a0_0 A0_1 c0_1 l0_1 rows _ _ (HMM.out.below HB.out) (Kd.C_below HR.out HB.out) HC.out A1.out).mono ?_); rintro e w3 ⟨v1, rfl, ho, hb⟩; have HO := Aside0.mk ho; replace HB := Aside0.mk (below_step HB.out hb); obtain ⟨Ao, co, eo⟩ := Kd.R_slice HO.out; subst eo; obtain ⟨ad0, e0, hx0⟩ := Kd.at_string (Kd.R_reads' HO.out).2.2 0 (by omega) (by have := HP.out; omega); cases e0; rw [← HS0.out] at hx0; have hx0 : w3.cell? ad0 = some (.string s0) := by { have e7 : ad0.add (Int.toNat 0) = ad0 := by { unfold Addr.add; exact if_pos rfl }; rw [e7] at hx0; exact hx0 }; obtain ⟨g5, c5, e5, gb5, gl5, _⟩ := Kd.R_form HO.out HP.out; have HRB := Aside0.mk gb5; have HRL := Aside0.mk gl5; have HRE := Aside0.mk e5; have p00 : ((0 : Int) < (rows.length : Int)) = True := eq_true (by have := HP.out; omega); have p01 : decide ((0 : Int) < (rows.length : Int)) = true := decide_eq_true (by have := HP.out; omega); have hcv := Lib.run_convert_string_bytes w3 9 51 5 s0 Tryz.underlying9 Tryz.underlying51 Tryz.underlying5; clear ho hb e5 gb5 gl5))
   have hG0 : (∀ i : Int, 0 ≤ i → i < (rows.length : Int) → ∃ ad : Addr, some ad0 = some ad ∧ w3.heap.size ≠ (ad.add i.toNat).block ∧ (Lib.bytesWorld w3 5 s0).cell? (ad.add i.toNat) = some (.string (rdOf ByteArray.empty rows i))) := by
    intro i h0 h1
    obtain ⟨ad, e, hx⟩ := Kd.at_string (Kd.R_reads' HO.out).2.2 i h0 h1
    refine ⟨ad, e, ?_, ?_⟩
    ·have e5 := HRE.out
     injection e5 with e6 _ _
     rw [e] at e6
     injection e6 with e6
     subst e6
     have e9 : ((⟨g5, 0, none⟩ : Addr).add i.toNat).block = g5 := by unfold Addr.add; split <;> rfl
     rw [e9]
     have := HRL.out
     omega
    rw [Lib.bytesWorld_old _ _ _ _ (World.block_lt_of_cell? w3 _ hx)]
    exact hx
   have HG := Aside0.mk hG0
   have HQ := Aside0.mk (impl_SureSigns_new w3 s0)
   have HL := Aside0.mk (show (bytesOf s0).length = s0.size by simp [bytesOf])
   have HBB := Aside0.mk (impl_SureSigns_below s0 HB.out)
   have HBS := Aside0.mk HB.out.size
   obtain ⟨cp, hcp⟩ : ∃ cp, cp = grownCap w3 s0.size 0 5 := ⟨_, rfl⟩
   rw [← hcp] at HQ
   (try simp only [← hcp])
   have HCP := Aside0.mk hcp
   clear hG0 HB hcp
   go_loopg [28] k (fun kq v28 w' => ∃ (x : Int) (o1 : List Int), v28 = .int .i64 x ∧ Aside0 (impl_SureSigns.l0 kq rows x o1 = some o) ∧ Aside0 (kq ≤ k) ∧ Aside0 (impl_SureSigns_row w' w3.heap.size cp o1) ∧ Aside0 (o1.length = s0.size) ∧ Aside0 (∀ i : Int, 0 ≤ i → i < (rows.length : Int) → ∃ ad : Addr, some ad0 = some ad ∧ w3.heap.size ≠ (ad.add i.toNat).block ∧ w'.cell? (ad.add i.toNat) = some (.string (rdOf ByteArray.empty rows i))) ∧ Aside0 (Below w.heap.size w w'))
   case atStart => exact ⟨0, _, rfl, H', ⟨Nat.le_refl _⟩, HQ, HL, HG, HBB⟩
   case round =>
    clear H' HQ HL HG HBB
    obtain ⟨x, o1, rfl, HA, HK1, HQ, HL, HG, HB⟩ := hrel
    cases gk with
    | zero => exact absurd HA.out (by simp [impl_SureSigns.l0])
    | succ k1 =>
     have H := HA.out
     clear HA
     simp only [impl_SureSigns.l0] at H
     by_cases c1 : x < (rows.length : Int)
     ·rw [if_pos c1] at H
      obtain ⟨c2, H⟩ := oi H
      obtain ⟨o2, A0, H⟩ := Option.bind_eq_some_iff.mp H
      have A2 := Aside0.mk A0
      have H' := Aside0.mk H
      clear A0 H
      obtain ⟨ad, e, _, hx⟩ := HG.out x c2 c1
      cases e
      obtain ⟨row, hrow⟩ : ∃ row, row = rdOf ByteArray.empty rows x := ⟨_, rfl⟩
      rw [← hrow] at hx A2
      have HROW := Aside0.mk hrow
      clear hrow
      have c1b : decide (x < (rows.length : Int)) = true := decide_eq_true c1
      have c1c := eq_true c1
      have c2c := eq_true c2
      clear c1 c2
      go_wp2
      go_loopg [34] k1 (fun kq v34 w' => ∃ (j : Int) (o3 : List Int), v34 = .int .i64 j ∧ Aside0 (impl_SureSigns.l1 kq row j o3 = some o2) ∧ Aside0 (kq ≤ k1) ∧ Aside0 (impl_SureSigns_row w' w3.heap.size cp o3) ∧ Aside0 (o3.length = s0.size) ∧ Aside0 (∀ i : Int, 0 ≤ i → i < (rows.length : Int) → ∃ ad : Addr, some ad0 = some ad ∧ w3.heap.size ≠ (ad.add i.toNat).block ∧ w'.cell? (ad.add i.toNat) = some (.string (rdOf ByteArray.empty rows i))) ∧ Aside0 (Below w.heap.size w w'))
      case atStart => exact ⟨0, o1, rfl, A2, ⟨Nat.le_refl _⟩, HQ, HL, HG, HB⟩
      case round =>
       clear A2 HQ HL HG HB hx
       obtain ⟨j, o3, rfl, HA, HK2, HQ, HL, HG, HB⟩ := hrel
       cases gk with
       | zero => exact absurd HA.out (by simp [impl_SureSigns.l1])
       | succ k2 =>
        have H := HA.out
        clear HA
        simp only [impl_SureSigns.l1] at H
        by_cases c3 : j < (o3.length : Int)
        ·rw [if_pos c3] at H
         obtain ⟨c4, H⟩ := oi H
         obtain ⟨c5, H⟩ := oi H
         have hc3 : j < (s0.size : Int) := by rw [← HL.out]; exact c3
         obtain ⟨hcell, hfz⟩ := impl_SureSigns_rd HQ.out j c4 c3
         have c3b : decide (j < (s0.size : Int)) = true := decide_eq_true hc3
         have c3c := eq_true hc3
         have c4b : decide (0 ≤ j) = true := decide_eq_true c4
         have c4c := eq_true c4
         have c5b : decide (j < (row.size : Int)) = true := decide_eq_true c5
         have c5c := eq_true c5
         have hbt := bt_at row j
         by_cases c6 : bt row j = rd o3 j
         ·rw [if_pos c6] at H
          have H3 := Aside0.mk H
          clear H
          have c6b : (bt row j == rd o3 j) = true := beq_iff_eq.mpr c6
          have c6c : (bt row j != rd o3 j) = false := bne_eq_false_iff_eq.mpr c6
          clear c3 c4 c5 c6 hc3
          go_wp2
          repeat (go_quiet (fail); try go_wp2)
          go_roundg k2
          case measure => have := HK1.out; have := HK2.out; omega
          case rel => exact ⟨(wrap64 (j + 1)), o3, (rs), H3, ⟨by have := HK1.out; have := HK2.out; omega⟩, ⟨HQ.out⟩, HL, ⟨HG.out⟩, ⟨pw_below_drewN HB.out _⟩⟩
         rw [if_neg c6] at H
         have H3 := Aside0.mk H
         clear H
         have c6b : (bt row j == rd o3 j) = false := beq_eq_false_iff_ne.mpr c6
         have c6c : (bt row j != rd o3 j) = true := bne_iff_ne.mpr c6
         clear c3 c4 c5 c6 hc3
         go_wp2
         repeat (go_quiet (fail); try go_wp2)
         go_roundg k2
         case measure => have := HK1.out; have := HK2.out; omega
         case rel =>
          refine ⟨(wrap64 (j + 1)), o3.set j.toNat 63, (rs), H3, ⟨by have := HK1.out; have := HK2.out; omega⟩, ⟨impl_SureSigns_put (show impl_SureSigns_row (wr.drewN _) w3.heap.size cp o3 from HQ.out) j.toNat 63⟩, ⟨by rw [List.length_set]; exact HL.out⟩, ⟨?_⟩, ⟨below_set (pw_below_drewN HB.out _) HBS.out⟩⟩
          intro i h0 h1
          obtain ⟨ad, e, h2, h3⟩ := HG.out i h0 h1
          refine ⟨ad, e, h2, ?_⟩
          rw [World.cell?_setCell_other _ _ _ _ (fun e => h2 (by rw [← e]))]
          exact h3
        rw [if_neg c3] at H
        have c3b : decide (j < (s0.size : Int)) = false := decide_eq_false (by rw [← HL.out]; exact c3)
        obtain rfl := Option.some.inj H
        clear H c3
        go_wp2
        go_roundg k1
        case measure => have := HK1.out; have := HK2.out; omega
        case rel => exact ⟨(wrap64 (x + 1)), o3, (rs), H', ⟨by have := HK1.out; omega⟩, HQ, HL, HG, HB⟩
     rw [if_neg c1] at H
     have c1b : decide (x < (rows.length : Int)) = false := decide_eq_false c1
     obtain rfl := Option.some.inj H
     clear H c1
     have hcv2 := string_of_reads (P := Tryz.prog) (w := wr) (src := 51) (dst := 9) (A := some ⟨w3.heap.size, 0, none⟩) (n := s0.size) (c := cp) (xs := o1) Tryz.underlying51 Tryz.underlying5 Tryz.underlying9 ⟨HL.out, by omega, fun _ => ⟨_, rfl, fun j hj => by
      have h := (impl_SureSigns_rd HQ.out (j : Int) (by omega) (by rw [HL.out]; omega)).1
      have ea : (⟨w3.heap.size, 0, none⟩ : Addr).add j = ⟨w3.heap.size, (j : Int).toNat, none⟩ := by
       unfold Addr.add
       rw [Int.toNat_natCast]
       split
       ·next hz => subst hz; rfl
       simp
      rw [ea, h]
      simp [rd]⟩⟩
     go_wp2
     go_ret2
     exact ⟨rfl, HB.out⟩
  rw [if_neg hs] at h
  cases h

end Go.Proofs.YtfaakdokcldnkaaGreatDoor.PFnRowsGuessedOfAll
