-- Laid by xprint, a program of this session that runs over the kit's print.
import Derived.Test.YtonhhfhlhlifcaaGreatDoorPFnRowsHiddenOfAllx2
namespace Go.Proofs.YtonhhfhlhlifcaaGreatDoor.PFnRowsHiddenOfAll
open Go.RowKit Go.Proofs.YtonhhfhlhlifcaaGreatDoorW.PrintWords Go.Proofs.YtonhhfhlhlifcaaGreatDoorW.PrintLast Go.Proofs.YtonhhfhlhlifcaaGreatDoorW.PrintMore Go.Proofs.YtonhhfhlhlifcaaGreatDoor.Sq
attribute [local go_sem] max2_int min2_int max_two min_two max_three min_three max_four min_four   -- for this text's walks alone
set_option linter.unusedVariables false
set_option linter.unusedSimpArgs false

/-! ### impl_ticksToRest: function 35 -/
def impl_ticksToRest.l0 : Nat → ByteArray → Int → Option Int
  | 0, _, _ => none
  | k + 1, x, n => (impl_isAtRest.f x).bind fun t => if t = true then some n else (impl_tick.f x).bind fun y => impl_ticksToRest.l0 k y (wrap64 (n + 1))
def impl_ticksToRest.f (k : Nat) (a0 : ByteArray) : Option Int := impl_ticksToRest.l0 k a0 0
theorem impl_ticksToRest.mono_l : ∀ k, (∀ y0 y1, LeO (impl_ticksToRest.l0 k y0 y1) (impl_ticksToRest.l0 (k + 1) y0 y1))
  | 0 => fun _ _ r h => by simp [impl_ticksToRest.l0] at h
  | k + 1 => by
    have ih0 := impl_ticksToRest.mono_l k
    · intro y0 y1
      unfold impl_ticksToRest.l0
      repeat' first
      | (with_reducible exact ih0 _ _)
      | (with_reducible exact LeO.refl _)
      | (with_reducible exact LeO.none _)
      | (with_reducible refine LeO.ite ?_ ?_)
      | (with_reducible refine LeO.bind ?_ (fun _ => ?_))
theorem impl_ticksToRest.mono : ∀ a0 k, LeO (impl_ticksToRest.f k a0) (impl_ticksToRest.f (k + 1) a0) := fun a0 k => impl_ticksToRest.mono_l k a0 0
theorem impl_ticksToRest_hist : ∀ (k : Nat) (x : ByteArray) (n r : Int), impl_ticksToRest.l0 k x n = some r → ∃ y, impl_history.l0 k x = some y
  | 0, _, _, _, h => by simp [impl_ticksToRest.l0] at h
  | k + 1, x, n, r, h => by
    simp only [impl_ticksToRest.l0] at h
    obtain ⟨t, h1, h⟩ := Option.bind_eq_some_iff.mp h
    simp only [impl_history.l0, h1, Option.bind_some]
    cases t with
    | true => exact ⟨x, rfl⟩
    | false =>
      rw [if_neg (by decide)] at h
      obtain ⟨y, h2, h⟩ := Option.bind_eq_some_iff.mp h
      obtain ⟨z, hz⟩ := impl_ticksToRest_hist k y _ r h
      exact ⟨z, by rw [if_neg (by decide), h2]; exact hz⟩
set_option maxHeartbeats 8000000 in
set_option maxRecDepth 100000 in
theorem impl_ticksToRest_clo.calls (g : Nat) (n : Int) (x : ByteArray) (w : World) (hb : w.heap[g]? = some (.cells #[.int .i64 n] 3 (0, 0))) :
  Calls Tryz.prog 57 (#[.string x] ++ #[.pointer (some ⟨g, 0, none⟩)]) w fun e w' => e = .returned (.tuple #[]) ∧ w' = w.setCell ⟨g, 0, none⟩ (.int .i64 (wrap64 (n + 1))) := by
 show Calls Tryz.prog 57 #[.string x, .pointer (some ⟨g, 0, none⟩)] w _
 have hc : w.cell? ⟨g, 0, none⟩ = some (.int .i64 n) := (blk_cell hb 0).trans rfl
 have hf : w.frozen? ⟨g, 0, none⟩ = false := blk_frozen hb 0
 go_enter Tryz.func57, Tryz.ntmps57
 go_wp2
 go_end0
 exact ⟨rfl, rfl⟩
set_option maxHeartbeats 8000000 in
set_option maxRecDepth 100000 in
theorem impl_ticksToRest.calls (k : Nat) (a0 : ByteArray) (r : Int) (w : World) (hm : Dr.Tab w) (h : impl_ticksToRest.f k a0 = some r) :
  Calls Tryz.prog 35 #[.string a0] w fun e w' => e = .returned (.int .i64 r) ∧ Below w.heap.size w w' := by
 unfold impl_ticksToRest.f at h
 have H := Aside0.mk h
 obtain ⟨y, hy⟩ := impl_ticksToRest_hist k a0 0 r h
 have HY := Aside0.mk hy
 have HMM := Aside0.mk hm
 clear h hy hm
 go_enter Tryz.func35, Tryz.ntmps35
 have hb0 : (w.alloc (.cells #[.int .i64 0] 3)).heap[w.heap.size]? = some (.cells #[.int .i64 0] 3 (0, 0)) := blk_new w _
 have B0 : Below w.heap.size w (w.alloc (.cells #[.int .i64 0] 3)) := below_alloc (Below.refl _ _) _
 have hstep : ∀ (x y : ByteArray) (w' : World), (∃ (kq : Nat) (n : Int), impl_ticksToRest.l0 kq x n = some r ∧ w'.heap[w.heap.size]? = some (.cells #[.int .i64 n] 3 (0, 0)) ∧ Below w.heap.size w w') → impl_isAtRest.f x = some false → impl_tick.f x = some y →
   Calls Tryz.prog 57 (#[.string x] ++ #[.pointer (some ⟨w.heap.size, 0, none⟩)]) w' fun e w'' => e = .returned (.tuple #[]) ∧ ((fun (x : ByteArray) (w' : World) => ∃ (kq : Nat) (n : Int), impl_ticksToRest.l0 kq x n = some r ∧ w'.heap[w.heap.size]? = some (.cells #[.int .i64 n] 3 (0, 0)) ∧ Below w.heap.size w w') y w'') := by
  intro x y w1 ⟨kq, n, h1, h2, h3⟩ hr ht
  refine (impl_ticksToRest_clo.calls w.heap.size n x w1 h2).mono ?_
  rintro e w2 ⟨rfl, rfl⟩
  match kq, h1 with
  | 0, h1 => simp [impl_ticksToRest.l0] at h1
  | kq + 1, h1 =>
   simp only [impl_ticksToRest.l0, hr, ht, Option.bind_some] at h1
   rw [if_neg (by decide)] at h1
   exact ⟨rfl, kq, _, h1, blk_put h2 0 _ rfl, below_set h3 (Nat.le_refl _)⟩
 have HS := Aside0.mk hstep
 clear hstep
 go_wp2_with ((go_at_call 39; refine (impl_history.calls k 57 Tryz.f57 #[.pointer (some ⟨w.heap.size, 0, none⟩)] Tryz.func57 (by kernel_rfl) (by kernel_rfl)
  (fun x w' => ∃ (kq : Nat) (n : Int), impl_ticksToRest.l0 kq x n = some r ∧ w'.heap[w.heap.size]? = some (.cells #[.int .i64 n] 3 (0, 0)) ∧ Below w.heap.size w w')
  (fun x w' ⟨_, _, _, _, hB⟩ => HMM.out.below hB) (fun x w1 w2 ⟨kq, n, h1, h2, h3⟩ hb => ⟨kq, n, h1, blk_below h2 hb, below_step h3 hb⟩) HS.out a0 y _ ⟨k, 0, H.out, hb0, B0⟩ HY.out).mono ?_; rintro e w' ⟨rfl, ⟨kq, n, h1, h2, h3⟩, hr⟩; have hc : w'.cell? ⟨w.heap.size, 0, none⟩ = some (.int .i64 n) := (blk_cell h2 0).trans rfl))
 have hn : n = r := by
  match kq, h1 with
  | 0, h1 => simp [impl_ticksToRest.l0] at h1
  | kq + 1, h1 =>
   simp only [impl_ticksToRest.l0, hr, Option.bind_some, if_true] at h1
   exact Option.some.inj h1
 subst hn
 go_ret
 exact ⟨rfl, h3⟩

/-! ### strings_Count: function 54 -/
def strings_Count.f (a0 : ByteArray) (a1 : ByteArray) : Option Int := match a1.data.toList with
  | [c] => some (Lib.countByte a0.data.toList c)
  | _ => none
theorem strings_Count.calls (a0 : ByteArray) (a1 : ByteArray) (r : Int) (w : World) (h : strings_Count.f a0 a1 = some r) :
  Calls Tryz.prog 54 #[.string a0, .string a1] w fun e w' => e = .returned (.int .i64 r) ∧ Below w.heap.size w w' := by
 unfold strings_Count.f at h
 split at h
 ·next c hc =>
  obtain rfl := Option.some.inj h
  obtain rfl : a1 = ⟨#[c]⟩ := by rw [← Lib.mk_data a1, hc]
  have c : Calls Tryz.prog 54 #[.string a0, .string ⟨#[c]⟩] w _ := Any.strings_Count_one Tryz.lays138 a0 c w
  exact c.mono fun e w' ⟨h1, h2⟩ => ⟨h1, h2 ▸ Below.refl _ _⟩
 cases h

/-! ### impl_Clue_told: function 30 -/
def impl_Clue_told.f (k : Nat) (a0_0 : Int) (a0_1 : Int) (a0_2 : Int) (a0_3 : Int) (a1 : ByteArray) : Option (Int × Int × Int × Int) := if a0_0 = 0 then ((impl_RowAfter.f k a1 a0_2).bind fun bt118 => (if 0 ≤ a0_1 then (if a0_1 < (bt118.1.size : Int) then (if (bt bt118.1 a0_1) = 62 then (some (a0_0, a0_1, a0_2, 1)) else (some (a0_0, a0_1, a0_2, 0))) else (none)) else (none))) else (if a0_0 = 1 then ((strings_Count.f a1 (⟨#[62]⟩ : ByteArray)).bind fun t120 => (some (a0_0, a0_1, a0_2, t120))) else (if a0_0 = 2 then ((impl_ticksToRest.f k a1).bind fun t121 => (some (a0_0, a0_1, a0_2, t121))) else (if a0_0 = 3 then ((impl_facing.f k a1).bind fun t122 => (some (a0_0, a0_1, a0_2, (t122.length : Int)))) else (if a0_0 = 4 then ((impl_TurnsOfEach.f k a1).bind fun bt125 => (if 0 ≤ a0_1 then (if a0_1 < (bt125.1.length : Int) then (some (a0_0, a0_1, a0_2, rd bt125.1 a0_1)) else (none)) else (none))) else (some (a0_0, a0_1, a0_2, a0_3))))))
theorem impl_Clue_told.mono : ∀ a0 a1 a2 a3 a4 k, LeO (impl_Clue_told.f k a0 a1 a2 a3 a4) (impl_Clue_told.f (k + 1) a0 a1 a2 a3 a4) := by
  intro a0 a1 a2 a3 a4 k
  unfold impl_Clue_told.f
  repeat' first
      | (with_reducible exact impl_RowAfter.mono _ _ _)
      | (with_reducible exact impl_TurnsOfEach.mono _ _)
      | (with_reducible exact impl_facing.mono _ _)
      | (with_reducible exact impl_ticksToRest.mono _ _)
      | (with_reducible exact LeO.refl _)
      | (with_reducible exact LeO.none _)
      | (with_reducible refine LeO.ite ?_ ?_)
      | (with_reducible refine LeO.bind ?_ (fun _ => ?_))
      | exact impl_RowAfter.mono _ _ _
      | exact impl_TurnsOfEach.mono _ _
      | exact impl_facing.mono _ _
      | exact impl_ticksToRest.mono _ _
      | exact LeO.none _
      | refine LeO.ite ?_ ?_
      | refine LeO.bind ?_ (fun _ => ?_)
set_option maxHeartbeats 8000000 in
set_option maxRecDepth 100000 in
theorem impl_Clue_told.calls (k : Nat) (a0_0 : Int) (a0_1 : Int) (a0_2 : Int) (a0_3 : Int) (a1 : ByteArray) (r1 : Int) (r2 : Int) (r3 : Int) (r4 : Int) (w : World) (hm : Dr.Tab w) (h : impl_Clue_told.f k a0_0 a0_1 a0_2 a0_3 a1 = some (r1, r2, r3, r4)) :
  Calls Tryz.prog 30 #[.agg #[.int .i64 a0_0, .int .i64 a0_1, .int .i64 a0_2, .int .i64 a0_3], .string a1] w fun e w' => e = .returned (.agg #[.int .i64 r1, .int .i64 r2, .int .i64 r3, .int .i64 r4]) ∧ Below w.heap.size w w' := by
 have hu26 := Tryz.underlying26
 have HB := Aside0.mk (Below.refl w.heap.size w)
 have HMM := Aside0.mk hm
 clear hm
 unfold impl_Clue_told.f at h
 have H := h
 clear h
 by_cases c3 : a0_0 = 0
 ·rw [if_pos c3] at H
  have c3b0 : (a0_0 == 0) = true := beq_iff_eq.mpr c3
  have c3b1 : (a0_0 != 0) = false := bne_eq_false_iff_eq.mpr c3
  clear c3
  obtain ⟨⟨t118, t119⟩, A4, H⟩ := ob H
  (try dsimp only at H)
  obtain ⟨c5, H⟩ := oi H
  have c5b0 := decide_eq_true c5
  clear c5
  obtain ⟨c6, H⟩ := oi H
  have c6b0 := decide_eq_true c6
  clear c6
  go_enter Tryz.func30, Tryz.ntmps30
  go_wp2_with (first | ((with_reducible refine gd 2 ?_); refine bx 2 26 #[.int .i64 a0_0, .int .i64 a0_1, .int .i64 a0_2, .int .i64 a0_3] ?_; intro gb116 hg w9 hbox hb; have BK116 := hbox; have GW116 := gs hg; have GE116 := gs hg; replace HB := bs hb; clear hb hbox hg) | ((with_reducible refine gd 4 ?_); refine bx 4 26 #[.int .i64 0, .int .i64 0, .int .i64 0, .int .i64 0] ?_; intro gb117 hg w10 hbox hb; have BK117 := hbox; have GW117 := gs hg; have GE117 := gs hg; replace HB := bs hb; have ⟨NB116_117, NB117_116⟩ := nn BK116 hg; replace BK116 := nk BK116 hb; clear hb hbox hg; have hnb11 := nb NB116_117; have hz12 := z4 BK116) | ((with_reducible refine gc 12 ?_); refine gl (some 17) Tryz.func12 #[.string a1, .int .i64 a0_2] ?_; (with_reducible refine (impl_RowAfter.calls k a1 a0_2 t118 t119 _ ?_ A4.out).mono ?_); exact Dr.mm HMM; rintro e w13 ⟨rfl, hb⟩; refine ⟨_, rfl, ?_⟩; replace BK116 := nk BK116 hb; replace BK117 := nk BK117 hb; replace HB := bs hb; (try clear hb); have hz14 := z4 BK116; have p7 : 0 ≤ (a0_1 : Int) := of_decide_eq_true asm; have q7 : a0_1 < (t118.size : Int) := of_decide_eq_true asm; have hx7 := bt_at t118 a0_1; replace p7 := eq_true p7; replace q7 := eq_true q7; have hz15 := z4 BK117; refine halt ?_))
  by_cases c8 : (bt t118 a0_1) = 62
  ·rw [if_pos c8] at H
   have c8b0 : ((bt t118 a0_1) == 62) = true := beq_iff_eq.mpr c8
   have c8b1 : ((bt t118 a0_1) != 62) = false := bne_eq_false_iff_eq.mpr c8
   clear c8
   simp only [Option.some.injEq, Prod.mk.injEq] at H
   obtain ⟨rfl, rfl, rfl, rfl⟩ := H
   refine Aside0.mk ?_
   try go_wp2
   refine bodyPost_ret (results_cell_row rfl _ _ gb117 26 #[.int .i64 a0_0, .int .i64 a0_1, .int .i64 a0_2, .int .i64 1] (0, 0) _ rfl (pz BK117) Tryz.underlying26 rfl (by kernel_rfl)) rfl ?_
   exact ⟨rs, bw⟩
  rw [if_neg c8] at H
  have c8b0 : ((bt t118 a0_1) == 62) = false := beq_eq_false_iff_ne.mpr c8
  have c8b1 : ((bt t118 a0_1) != 62) = true := bne_iff_ne.mpr c8
  simp only [Option.some.injEq, Prod.mk.injEq] at H
  obtain ⟨rfl, rfl, rfl, rfl⟩ := H
  refine Aside0.mk ?_
  try go_wp2
  refine bodyPost_ret (results_cell_row rfl _ _ gb117 26 #[.int .i64 a0_0, .int .i64 a0_1, .int .i64 a0_2, .int .i64 0] (0, 0) _ rfl (pz BK117) Tryz.underlying26 rfl (by kernel_rfl)) rfl ?_
  exact ⟨rs, bw⟩
 rw [if_neg c3] at H
 have c3b0 : (a0_0 == 0) = false := beq_eq_false_iff_ne.mpr c3
 have c3b1 : (a0_0 != 0) = true := bne_iff_ne.mpr c3
 by_cases c23 : a0_0 = 1
 ·rw [if_pos c23] at H
  have c23b0 : (a0_0 == 1) = true := beq_iff_eq.mpr c23
  have c23b1 : (a0_0 != 1) = false := bne_eq_false_iff_eq.mpr c23
  clear c23
  obtain ⟨t120, A24, H⟩ := ob H
  (try dsimp only at H)
  simp only [Option.some.injEq, Prod.mk.injEq] at H
  obtain ⟨rfl, rfl, rfl, rfl⟩ := H
  go_enter Tryz.func30, Tryz.ntmps30
  go_wp2_with (first | ((with_reducible refine gd 2 ?_); refine bx 2 26 #[.int .i64 a0_0, .int .i64 a0_1, .int .i64 a0_2, .int .i64 a0_3] ?_; intro gb116 hg w25 hbox hb; have BK116 := hbox; have GW116 := gs hg; have GE116 := gs hg; replace HB := bs hb; clear hb hbox hg) | ((with_reducible refine gd 4 ?_); refine bx 4 26 #[.int .i64 0, .int .i64 0, .int .i64 0, .int .i64 0] ?_; intro gb117 hg w26 hbox hb; have BK117 := hbox; have GW117 := gs hg; have GE117 := gs hg; replace HB := bs hb; have ⟨NB116_117, NB117_116⟩ := nn BK116 hg; replace BK116 := nk BK116 hb; clear hb hbox hg; have hnb27 := nb NB116_117; have hz28 := z4 BK116) | ((with_reducible refine gc 54 ?_); refine gl (some 30) Tryz.func54 #[.string a1, .string (⟨#[62]⟩ : ByteArray)] ?_; (with_reducible refine (strings_Count.calls a1 (⟨#[62]⟩ : ByteArray) t120 _ A24.out).mono ?_); rintro e w29 ⟨rfl, hb⟩; refine ⟨_, rfl, ?_⟩; replace BK116 := nk BK116 hb; replace BK117 := nk BK117 hb; replace HB := bs hb; (try clear hb); have hz30 := z4 BK116; have hz31 := z4 BK117))
  refine bodyPost_ret (results_cell_row rfl _ _ gb117 26 #[.int .i64 a0_0, .int .i64 a0_1, .int .i64 a0_2, .int .i64 t120] (0, 0) _ rfl (pz BK117) Tryz.underlying26 rfl (by kernel_rfl)) rfl ?_
  exact ⟨rs, bw⟩
 rw [if_neg c23] at H
 have c23b0 : (a0_0 == 1) = false := beq_eq_false_iff_ne.mpr c23
 have c23b1 : (a0_0 != 1) = true := bne_iff_ne.mpr c23
 by_cases c32 : a0_0 = 2
 ·rw [if_pos c32] at H
  have c32b0 : (a0_0 == 2) = true := beq_iff_eq.mpr c32
  have c32b1 : (a0_0 != 2) = false := bne_eq_false_iff_eq.mpr c32
  clear c32
  obtain ⟨t121, A33, H⟩ := ob H
  (try dsimp only at H)
  simp only [Option.some.injEq, Prod.mk.injEq] at H
  obtain ⟨rfl, rfl, rfl, rfl⟩ := H
  go_enter Tryz.func30, Tryz.ntmps30
  go_wp2_with (first | ((with_reducible refine gd 2 ?_); refine bx 2 26 #[.int .i64 a0_0, .int .i64 a0_1, .int .i64 a0_2, .int .i64 a0_3] ?_; intro gb116 hg w34 hbox hb; have BK116 := hbox; have GW116 := gs hg; have GE116 := gs hg; replace HB := bs hb; clear hb hbox hg) | ((with_reducible refine gd 4 ?_); refine bx 4 26 #[.int .i64 0, .int .i64 0, .int .i64 0, .int .i64 0] ?_; intro gb117 hg w35 hbox hb; have BK117 := hbox; have GW117 := gs hg; have GE117 := gs hg; replace HB := bs hb; have ⟨NB116_117, NB117_116⟩ := nn BK116 hg; replace BK116 := nk BK116 hb; clear hb hbox hg; have hnb36 := nb NB116_117; have hz37 := z4 BK116) | ((with_reducible refine gc 35 ?_); refine gl (some 35) Tryz.func35 #[.string a1] ?_; (with_reducible refine (impl_ticksToRest.calls k a1 t121 _ ?_ A33.out).mono ?_); exact Dr.mm HMM; rintro e w38 ⟨rfl, hb⟩; refine ⟨_, rfl, ?_⟩; replace BK116 := nk BK116 hb; replace BK117 := nk BK117 hb; replace HB := bs hb; (try clear hb); have hz39 := z4 BK116; have hz40 := z4 BK117))
  refine bodyPost_ret (results_cell_row rfl _ _ gb117 26 #[.int .i64 a0_0, .int .i64 a0_1, .int .i64 a0_2, .int .i64 t121] (0, 0) _ rfl (pz BK117) Tryz.underlying26 rfl (by kernel_rfl)) rfl ?_
  exact ⟨rs, bw⟩
 rw [if_neg c32] at H
 have c32b0 : (a0_0 == 2) = false := beq_eq_false_iff_ne.mpr c32
 have c32b1 : (a0_0 != 2) = true := bne_iff_ne.mpr c32
 by_cases c41 : a0_0 = 3
 ·rw [if_pos c41] at H
  have c41b0 : (a0_0 == 3) = true := beq_iff_eq.mpr c41
  have c41b1 : (a0_0 != 3) = false := bne_eq_false_iff_eq.mpr c41
  clear c41
  obtain ⟨t122, A42, H⟩ := ob H
  (try dsimp only at H)
  simp only [Option.some.injEq, Prod.mk.injEq] at H
  obtain ⟨rfl, rfl, rfl, rfl⟩ := H
  go_enter Tryz.func30, Tryz.ntmps30
  go_wp2_with (first | ((with_reducible refine gd 2 ?_); refine bx 2 26 #[.int .i64 a0_0, .int .i64 a0_1, .int .i64 a0_2, .int .i64 a0_3] ?_; intro gb116 hg w43 hbox hb; have BK116 := hbox; have GW116 := gs hg; have GE116 := gs hg; replace HB := bs hb; clear hb hbox hg) | ((with_reducible refine gd 4 ?_); refine bx 4 26 #[.int .i64 0, .int .i64 0, .int .i64 0, .int .i64 0] ?_; intro gb117 hg w44 hbox hb; have BK117 := hbox; have GW117 := gs hg; have GE117 := gs hg; replace HB := bs hb; have ⟨NB116_117, NB117_116⟩ := nn BK116 hg; replace BK116 := nk BK116 hb; clear hb hbox hg; have hnb45 := nb NB116_117; have hz46 := z4 BK116) | ((with_reducible refine gc 38 ?_); refine gl (some 40) Tryz.func38 #[.string a1] ?_; (with_reducible refine (impl_facing.calls k a1 t122 _ A42.out).mono ?_); rintro e w47 ⟨v123, rfl, ho0, hb⟩; refine ⟨_, rfl, ?_⟩; have HO124 := Aside0.mk (Kd.R_lower ho0 (below_size bw)); replace BK116 := nk BK116 hb; replace BK117 := nk BK117 hb; replace HB := bs hb; (try clear hb); (try clear ho0); obtain ⟨Ao48, co48, eo48⟩ := Kd.R_slice HO124.out; subst eo48; have hz49 := z4 BK116; have hz50 := z4 BK117))
  refine bodyPost_ret (results_cell_row rfl _ _ gb117 26 #[.int .i64 a0_0, .int .i64 a0_1, .int .i64 a0_2, .int .i64 (t122.length : Int)] (0, 0) _ rfl (pz BK117) Tryz.underlying26 rfl (by kernel_rfl)) rfl ?_
  exact ⟨rs, bw⟩
 rw [if_neg c41] at H
 have c41b0 : (a0_0 == 3) = false := beq_eq_false_iff_ne.mpr c41
 have c41b1 : (a0_0 != 3) = true := bne_iff_ne.mpr c41
 go_enter Tryz.func30, Tryz.ntmps30
 go_wp2_with (((with_reducible refine gd 2 ?_); refine bx 2 26 #[.int .i64 a0_0, .int .i64 a0_1, .int .i64 a0_2, .int .i64 a0_3] ?_; intro gb116 hg w55 hbox hb; have BK116 := hbox; have GW116 := gs hg; have GE116 := gs hg; replace HB := bs hb; clear hb hbox hg; refine halt ?_))
 by_cases c51 : a0_0 = 4
 ·rw [if_pos c51] at H
  have c51b0 : (a0_0 == 4) = true := beq_iff_eq.mpr c51
  have c51b1 : (a0_0 != 4) = false := bne_eq_false_iff_eq.mpr c51
  clear c51
  obtain ⟨⟨t125, t126⟩, A52, H⟩ := ob H
  (try dsimp only at H)
  obtain ⟨c53, H⟩ := oi H
  have c53b0 := decide_eq_true c53
  clear c53
  obtain ⟨c54, H⟩ := oi H
  have c54b0 := decide_eq_true c54
  clear c54
  simp only [Option.some.injEq, Prod.mk.injEq] at H
  obtain ⟨rfl, rfl, rfl, rfl⟩ := H
  refine Aside0.mk ?_
  try go_wp2_with (first | ((with_reducible refine gd 4 ?_); refine bx 4 26 #[.int .i64 0, .int .i64 0, .int .i64 0, .int .i64 0] ?_; intro gb117 hg w56 hbox hb; have BK117 := hbox; have GW117 := gs hg; have GE117 := gs hg; replace HB := bs hb; have ⟨NB116_117, NB117_116⟩ := nn BK116 hg; replace BK116 := nk BK116 hb; clear hb hbox hg; have hnb57 := nb NB116_117; have hz58 := z4 BK116) | ((with_reducible refine gc 10 ?_); refine gl (some 47) Tryz.func10 #[.string a1] ?_; (with_reducible refine (impl_TurnsOfEach.calls k a1 t125 t126 _ ?_ A52.out).mono ?_); exact Dr.mm HMM; rintro e w59 ⟨v127, rfl, ho0, hb⟩; refine ⟨_, rfl, ?_⟩; have HO128 := Aside0.mk (Kd.R_lower ho0 (below_size bw)); replace BK116 := nk BK116 hb; replace BK117 := nk BK117 hb; replace HB := bs hb; (try clear hb); (try clear ho0); have hz60 := z4 BK116; obtain ⟨Ao61, co61, eo61⟩ := Kd.R_slice HO128.out; subst eo61; have p129 : 0 ≤ (a0_1 : Int) := of_decide_eq_true asm; have q129 : a0_1 < (t125.length : Int) := of_decide_eq_true asm; obtain ⟨ad129, e129, hx129_0⟩ := Kd.at_int (Kd.R_reads' HO128.out).2.2 a0_1 p129 q129; cases e129; replace p129 := eq_true p129; replace q129 := eq_true q129; have hz62 := z4 BK117))
  refine bodyPost_ret (results_cell_row rfl _ _ gb117 26 #[.int .i64 a0_0, .int .i64 a0_1, .int .i64 a0_2, .int .i64 (rd t125 a0_1)] (0, 0) _ rfl (pz BK117) Tryz.underlying26 rfl (by kernel_rfl)) rfl ?_
  exact ⟨rs, bw⟩
 rw [if_neg c51] at H
 have c51b0 : (a0_0 == 4) = false := beq_eq_false_iff_ne.mpr c51
 have c51b1 : (a0_0 != 4) = true := bne_iff_ne.mpr c51
 simp only [Option.some.injEq, Prod.mk.injEq] at H
 obtain ⟨rfl, rfl, rfl, rfl⟩ := H
 refine Aside0.mk ?_
 try go_wp2_with (((with_reducible refine gd 4 ?_); refine bx 4 26 #[.int .i64 0, .int .i64 0, .int .i64 0, .int .i64 0] ?_; intro gb117 hg w64 hbox hb; have BK117 := hbox; have GW117 := gs hg; have GE117 := gs hg; replace HB := bs hb; have ⟨NB116_117, NB117_116⟩ := nn BK116 hg; replace BK116 := nk BK116 hb; clear hb hbox hg; have hnb65 := nb NB116_117; have hz66 := z4 BK116; have hz67 := z4 BK117))
 refine bodyPost_ret (results_cell_row rfl _ _ gb117 26 #[.int .i64 a0_0, .int .i64 a0_1, .int .i64 a0_2, .int .i64 a0_3] (0, 0) _ rfl (pz BK117) Tryz.underlying26 rfl (by kernel_rfl)) rfl ?_
 exact ⟨rs, bw⟩

end Go.Proofs.YtonhhfhlhlifcaaGreatDoor.PFnRowsHiddenOfAll
