-- Laid by xprint, a program of this session that runs over the kit's print.
import Derived.Test.YtmindeeacfdonaaDoorPFnExactBestCluex0
import Derived.Test.YtmindeeacfdonaaDoorPFnExactBestCluex7
import Derived.Test.YtmindeeacfdonaaDoorPFnExactBestCluex9
namespace Go.Proofs.YtmindeeacfdonaaDoor.PFnExactBestClue
open Go.RowKit Go.Proofs.YtmindeeacfdonaaDoorW.PrintWords Go.Proofs.YtmindeeacfdonaaDoorW.PrintLast Go.Proofs.YtmindeeacfdonaaDoorW.PrintMore Go.Proofs.YtmindeeacfdonaaDoor.Sq
attribute [local go_sem] max2_int min2_int max_two min_two max_three min_three max_four min_four   -- for this text's walks alone
set_option linter.unusedVariables false
set_option linter.unusedSimpArgs false

/-! ### impl_BestClue: function 36 -/
mutual
def impl_BestClue.j0 : Nat → Bool → Int → List (S33) → Option (Int × Bool)
  | 0, _, _, _ => none
  | k + 1, x16, x243000, x243001 => if x16 = true then (some (0, false)) else (if 0 ≤ x243000 then (impl_BestClue.l0 k 0 (wrap64 ((shl .i64 1 x243000) + 1)) (x243001.length : Int) 0 x243000 x243001) else (none))
def impl_BestClue.l0 : Nat → Int → Int → Int → Int → Int → List (S33) → Option (Int × Bool)
  | 0, _, _, _, _, _, _ => none
  | k + 1, x4, x5, x23, x24, x243000, x243001 => if x24 < x23 then (if 0 ≤ x24 then (if x24 ≤ (wrap64 (x24 + 1)) then (if (wrap64 (x24 + 1)) ≤ (x243001.length : Int) then ((impl_solutions.f k x243000 ((x243001.take ((wrap64 (x24 + 1)) : Int).toNat).drop (x24 : Int).toNat)).bind fun t248 => (if (t248.length : Int) < x5 then (impl_BestClue.l0 k x24 (t248.length : Int) x23 (wrap64 (x24 + 1)) x243000 x243001) else (impl_BestClue.l0 k x4 x5 x23 (wrap64 (x24 + 1)) x243000 x243001))) else (none)) else (none)) else (none)) else (some (x4, true))
end
def impl_BestClue.f (k : Nat) (a0_0 : Int) (l0_1 : List (S33)) : Option (Int × Bool) := (impl_isPuzzle.f k a0_0 l0_1).bind fun t243 => (if t243 = true then (impl_BestClue.j0 k ((l0_1.length : Int) == 0) a0_0 l0_1) else (impl_BestClue.j0 k true a0_0 l0_1))
theorem impl_BestClue.mono_l : ∀ k, (∀ y0 y1 y2, LeO (impl_BestClue.j0 k y0 y1 y2) (impl_BestClue.j0 (k + 1) y0 y1 y2)) ∧ (∀ y0 y1 y2 y3 y4 y5, LeO (impl_BestClue.l0 k y0 y1 y2 y3 y4 y5) (impl_BestClue.l0 (k + 1) y0 y1 y2 y3 y4 y5))
  | 0 => ⟨fun _ _ _ r h => by simp [impl_BestClue.j0] at h, fun _ _ _ _ _ _ r h => by simp [impl_BestClue.l0] at h⟩
  | k + 1 => by
    obtain ⟨ih0, ih1⟩ := impl_BestClue.mono_l k
    refine ⟨?_, ?_⟩
    · intro y0 y1 y2
      unfold impl_BestClue.j0
      repeat' first
      | (with_reducible exact ih0 _ _ _)
      | (with_reducible exact ih1 _ _ _ _ _ _)
      | (with_reducible exact impl_isPuzzle.mono _ _ _)
      | (with_reducible exact impl_solutions.mono _ _ _)
      | (with_reducible exact LeO.refl _)
      | (with_reducible exact LeO.none _)
      | (with_reducible refine LeO.ite ?_ ?_)
      | (with_reducible refine LeO.bind ?_ (fun _ => ?_))
      | exact ih0 _ _ _
      | exact ih1 _ _ _ _ _ _
      | exact impl_isPuzzle.mono _ _ _
      | exact impl_solutions.mono _ _ _
      | exact LeO.none _
      | refine LeO.ite ?_ ?_
      | refine LeO.bind ?_ (fun _ => ?_)
    · intro y0 y1 y2 y3 y4 y5
      unfold impl_BestClue.l0
      repeat' first
      | (with_reducible exact ih0 _ _ _)
      | (with_reducible exact ih1 _ _ _ _ _ _)
      | (with_reducible exact impl_isPuzzle.mono _ _ _)
      | (with_reducible exact impl_solutions.mono _ _ _)
      | (with_reducible exact LeO.refl _)
      | (with_reducible exact LeO.none _)
      | (with_reducible refine LeO.ite ?_ ?_)
      | (with_reducible refine LeO.bind ?_ (fun _ => ?_))
      | exact ih0 _ _ _
      | exact ih1 _ _ _ _ _ _
      | exact impl_isPuzzle.mono _ _ _
      | exact impl_solutions.mono _ _ _
      | exact LeO.none _
      | refine LeO.ite ?_ ?_
      | refine LeO.bind ?_ (fun _ => ?_)
theorem impl_BestClue.mono : ∀ a0 a1 k, LeO (impl_BestClue.f k a0 a1) (impl_BestClue.f (k + 1) a0 a1) := by
  intro a0 a1 k
  obtain ⟨ih0, ih1⟩ := impl_BestClue.mono_l k
  unfold impl_BestClue.f
  repeat' first
      | (with_reducible exact ih0 _ _ _)
      | (with_reducible exact ih1 _ _ _ _ _ _)
      | (with_reducible exact impl_isPuzzle.mono _ _ _)
      | (with_reducible exact impl_solutions.mono _ _ _)
      | (with_reducible exact LeO.refl _)
      | (with_reducible exact LeO.none _)
      | (with_reducible refine LeO.ite ?_ ?_)
      | (with_reducible refine LeO.bind ?_ (fun _ => ?_))
      | exact ih0 _ _ _
      | exact ih1 _ _ _ _ _ _
      | exact impl_isPuzzle.mono _ _ _
      | exact impl_solutions.mono _ _ _
      | exact LeO.none _
      | refine LeO.ite ?_ ?_
      | refine LeO.bind ?_ (fun _ => ?_)
def impl_BestClue.T7 : Bool × List (List Nat × List Nat) := (true, [([], []), ([0], [0]), ([], []), ([2], [2]), ([], []), ([], []), ([5], [5]), ([3, 4, 6], [3, 4, 6]), ([1, 7], [1, 7]), ([8], [8]), ([9, 8, 0, 1, 2, 3, 4, 5, 6, 7, 8, 9], [9])])
def impl_BestClue.B7 : List Nat := [0, 1, 0, 4, 0, 0, 32, 124, 255, 511, 1023]
theorem impl_BestClue.tab7 : rtab .any (opsOf Tryd.f36 7) = impl_BestClue.T7 := by kernel_rfl
theorem impl_BestClue.bits7 : waitsOk impl_BestClue.T7.2 impl_BestClue.B7 = true := by kernel_rfl
set_option maxHeartbeats 8000000 in
set_option maxRecDepth 100000 in
theorem impl_BestClue.calls (k : Nat) (a0_0 : Int) (A0_1 : Option Addr) (c0_1 : Nat) (l0_1 : List (S33)) (r1 : Int) (r2 : Bool) (w : World) (hm : Dr.Tab w) (hr0_1 : Kd.C k33 w A0_1 l0_1.length l0_1) (hc0_1 : l0_1.length ≤ c0_1) (h : impl_BestClue.f k a0_0 l0_1 = some (r1, r2)) :
  Calls Tryd.prog 36 #[.agg #[.int .i64 a0_0, .slice A0_1 l0_1.length c0_1]] w fun e w' => e = .returned (.tuple #[.int .i64 r1, .bool r2]) ∧ Below w.heap.size w w' := by
 have hu38 := Tryd.underlying38
 have HR0_1 := Aside0.mk hr0_1
 have HC0_1 := Aside0.mk hc0_1
 clear hr0_1 hc0_1
 have HB := Aside0.mk (Below.refl w.heap.size w)
 have HMM := Aside0.mk hm
 clear hm
 unfold impl_BestClue.f at h
 have H := h
 clear h
 have HC2 := Aside0.mk H
 clear H
 go_enter Tryd.func36, Tryd.ntmps36
 go_upto_region 1 with (first | ((with_reducible refine gate_dst (N := 1) rfl ?_); (try (refine gate_guard (by rfl) ?_; dsimp only)); refine bx 1 38 #[.int .i64 a0_0, .slice A0_1 l0_1.length c0_1] ?_; intro gb242 hg w3 hbox hb; have BK242 := hbox; have GW242 := gs hg; have GE242 := gs hg; replace HB := bs hb; clear hb hbox hg))
 (try simp only [Act.put, List.setIfInBounds_toArray, List.set_cons_zero, List.set_cons_succ])
 go_cut [16] (fun v16 wc => ∃ (kq : Nat) (x16_1 : Bool), v16 = .bool x16_1 ∧ Aside0 (impl_BestClue.j0 kq x16_1 a0_0 l0_1 = some (r1, r2)) ∧ Aside0 (kq ≤ k) ∧ Aside0 (wc.heap[gb242]? = some (.cells #[.int .i64 a0_0, (.slice A0_1 l0_1.length c0_1)] 38 (0, 0))) ∧ Aside0 (Below w.heap.size w wc))
 case first =>
  have H := HC2.out
  clear HC2
  replace H := Option.bind_eq_some_iff.mp H
  obtain ⟨t243, A40, H⟩ := H
  (try dsimp only at H)
  have A4 := Aside0.mk A40
  clear A40
  by_cases c5 : t243 = true
  ·subst c5
   rw [if_pos rfl] at H
   have H' := Aside0.mk H
   clear H
   have hcz6_0 := bc BK242 0 (.int .i64 a0_0)
   have hcz6_1 := bc BK242 1 (.slice A0_1 l0_1.length c0_1)
   have hfz6_0 := blk_frozen BK242.out 0
   have hfz6_1 := blk_frozen BK242.out 1
   go_wp2_with (first | ((with_reducible refine gate_callee (f := 76) rfl ?_); refine gl (some 9) Tryd.func76 #[.agg #[.int .i64 a0_0, .slice A0_1 l0_1.length c0_1]] ?_; (with_reducible refine (impl_isPuzzle.calls k a0_0 _ _ l0_1 true _ ?side1 ?side2 A4.out).mono ?_); (case side1 => repeat (first | exact (Kd.C_below HR0_1.out HB.out) | (with_reducible refine Kd.C_alloc ?_ _) | (with_reducible refine Kd.C_drewN ?_ _) | (with_reducible refine Kd.C_drew ?_))); (case side2 => exact HC0_1.out); rintro e w7 ⟨rfl, hb⟩; refine ⟨_, rfl, ?_⟩; replace BK242 := nk BK242 hb; replace HB := bs hb; (try clear hb); have hcz8_0 := bc BK242 0 (.int .i64 a0_0); have hcz8_1 := bc BK242 1 (.slice A0_1 l0_1.length c0_1); have hfz8_0 := blk_frozen BK242.out 0; have hfz8_1 := blk_frozen BK242.out 1))
   go_meet
   case rel => exact ⟨_, (((l0_1.length : Int) == 0)), (rs), H', ⟨by first | omega | exact Nat.le_refl _⟩, ⟨pk BK242⟩, ⟨bw⟩⟩
  ·replace c5 := Bool.eq_false_iff.mpr c5
   subst c5
   rw [if_neg (show ¬ (false = true) by decide)] at H
   have H' := Aside0.mk H
   clear H
   have hcz9_0 := bc BK242 0 (.int .i64 a0_0)
   have hcz9_1 := bc BK242 1 (.slice A0_1 l0_1.length c0_1)
   have hfz9_0 := blk_frozen BK242.out 0
   have hfz9_1 := blk_frozen BK242.out 1
   go_wp2_with (first | ((with_reducible refine gate_callee (f := 76) rfl ?_); refine gl (some 9) Tryd.func76 #[.agg #[.int .i64 a0_0, .slice A0_1 l0_1.length c0_1]] ?_; (with_reducible refine (impl_isPuzzle.calls k a0_0 _ _ l0_1 false _ ?side1 ?side2 A4.out).mono ?_); (case side1 => repeat (first | exact (Kd.C_below HR0_1.out HB.out) | (with_reducible refine Kd.C_alloc ?_ _) | (with_reducible refine Kd.C_drewN ?_ _) | (with_reducible refine Kd.C_drew ?_))); (case side2 => exact HC0_1.out); rintro e w10 ⟨rfl, hb⟩; refine ⟨_, rfl, ?_⟩; replace BK242 := nk BK242 hb; replace HB := bs hb; (try clear hb)))
   go_meet
   case rel => exact ⟨_, (true), (rs), H', ⟨by first | omega | exact Nat.le_refl _⟩, ⟨pk BK242⟩, ⟨bw⟩⟩
 case rest =>
  clear HC2
  try clear p2
  try clear c3
  try clear c5
  try clear c7
  try clear hcz6_0
  try clear hcz6_1
  try clear hcz8_0
  try clear hcz8_1
  try clear hcz9_0
  try clear hcz9_1
  try clear hfz6_0
  try clear hfz6_1
  try clear hfz8_0
  try clear hfz8_1
  try clear hfz9_0
  try clear hfz9_1
  obtain ⟨kq, x16_1, rfl, HA, HJ1, BK242, HB⟩ := hcut
  cases kq with
  | zero => exact absurd HA.out (by simp [impl_BestClue.j0])
  | succ kj1 =>
   have H := HA.out
   clear HA
   simp only [impl_BestClue.j0] at H
   by_cases c11 : x16_1 = true
   ·subst c11
    rw [if_pos rfl] at H
    simp only [Option.some.injEq, Prod.mk.injEq] at H
    obtain ⟨rfl, rfl⟩ := H
    go_wp2
    go_ret2
    exact ⟨rs, bw⟩
   ·replace c11 := Bool.eq_false_iff.mpr c11
    subst c11
    rw [if_neg (show ¬ (false = true) by decide)] at H
    by_cases c12 : 0 ≤ a0_0
    ·rw [if_pos c12] at H
     have c12b0 := eq_true c12
     have c12b1 : decide (0 ≤ a0_0) = true := decide_eq_true c12
     clear c12
     obtain ⟨ji13, hji13⟩ : ∃ j_ : Int, (shl .i64 1 a0_0) = j_ := ⟨_, rfl⟩
     replace H : (impl_BestClue.l0 kj1 0 (wrap64 ((ji13) + 1)) (l0_1.length : Int) 0 a0_0 l0_1) = some (r1, r2) := by first | (rw [hji13] at H; exact H) | (simp only [hji13] at H ⊢; exact H)
     have hji13_ : (IntKind.i64.wrap (1 * 2 ^ min a0_0.toNat 64)) = ji13 := hji13
     have hji13z : a0_0 ≤ 64 → (IntKind.i64.wrap (1 * 2 ^ a0_0.toNat)) = ji13 := shl_small hji13
     have hji13u : (IntKind.i64.wrap (2 ^ min a0_0.toNat 64)) = ji13 := by have h_ := hji13_; rw [Int.one_mul] at h_; exact h_
     have hji13v : a0_0 ≤ 64 → (IntKind.i64.wrap (2 ^ a0_0.toNat)) = ji13 := fun hle_ => by have h_ := hji13z hle_; rw [Int.one_mul] at h_; exact h_
     have hji13y : (wrap64 (1 * 2 ^ min a0_0.toNat 64)) = ji13 := (i64_w _).symm.trans hji13_
     have hji13x : a0_0 ≤ 64 → (wrap64 (1 * 2 ^ a0_0.toNat)) = ji13 := fun h_ => (i64_w _).symm.trans (hji13z h_)
     have H' := Aside0.mk H
     clear H
     try go_wp2
     replace BK242 := Aside0.mk (blk_drew BK242.out)
     replace HB := Aside0.mk (below_drew1 HB.out)
     refine start_ (n := 6) (S := fun w' => w'.cell? ⟨gb242, 0, none⟩ = some (.int .i64 a0_0) ∧ w'.cell? ⟨gb242, 1, none⟩ = some (.slice A0_1 l0_1.length c0_1)) (ds := []) #[false, false, false, false, false, false] (by kernel_rfl) rfl rfl ⟨ec BK242, ec BK242⟩ (fun hHeld => ?_)
     generalize wc.drew = w14 at BK242 HB hHeld ⊢
     refine pure_ (i := 0) (N := some 17) (v := ?_) (a' := ?_) #[true, false, false, false, false, false] rfl rfl (by kernel_rfl) (fun _ _ _ h => h) (Or.inl ⟨by rfl, ?_⟩) ?_ ?_
     rotate_left
     ·intro w'
      go_simp
      with_reducible rfl
     rotate_left
     ·simp only [Act.put, List.setIfInBounds_toArray, List.set_cons_zero, List.set_cons_succ, i64_w, i32_w]
      rfl
     refine pure_ (i := 4) (N := some 4) (v := ?_) (a' := ?_) #[true, false, false, false, true, false] rfl rfl (by kernel_rfl) (fun _ _ _ h => h) (Or.inl ⟨by rfl, ?_⟩) ?_ ?_
     rotate_left
     ·intro w'
      go_simp
      with_reducible rfl
     rotate_left
     ·simp only [Act.put, List.setIfInBounds_toArray, List.set_cons_zero, List.set_cons_succ, i64_w, i32_w]
      rfl
     refine take_ (i := 1) (N := some 18) (v := ?_) (a' := ?_) #[true, true, false, false, true, false] rfl rfl (by kernel_rfl) (fun _ _ _ h => h) (Or.inl ⟨by rfl, ?_⟩) hHeld ?_ ?_
     rotate_left
     ·rintro w' ⟨s0, s1⟩
      go_simp
      with_reducible rfl
     rotate_left
     ·simp only [Act.put, List.setIfInBounds_toArray, List.set_cons_zero, List.set_cons_succ, i64_w, i32_w]
      rfl
     refine pure_ (i := 2) (N := some 19) (v := ?_) (a' := ?_) #[true, true, true, false, true, false] rfl rfl (by kernel_rfl) (fun _ _ _ h => h) (Or.inl ⟨by rfl, ?_⟩) ?_ ?_
     rotate_left
     ·intro w'
      go_simp
      with_reducible rfl
     rotate_left
     ·simp only [Act.put, List.setIfInBounds_toArray, List.set_cons_zero, List.set_cons_succ, i64_w, i32_w]
      rfl
     refine pure_ (i := 3) (N := some 20) (v := ?_) (a' := ?_) #[true, true, true, true, true, false] rfl rfl (by kernel_rfl) (fun _ _ _ h => h) (Or.inl ⟨by rfl, ?_⟩) ?_ ?_
     rotate_left
     ·intro w'
      go_simp
      with_reducible rfl
     rotate_left
     ·simp only [Act.put, List.setIfInBounds_toArray, List.set_cons_zero, List.set_cons_succ, i64_w, i32_w]
      rfl
     refine pure_ (i := 5) (N := some 5) (v := ?_) (a' := ?_) #[true, true, true, true, true, true] rfl rfl (by kernel_rfl) (fun _ _ _ h => h) (Or.inl ⟨by rfl, ?_⟩) ?_ ?_
     rotate_left
     ·intro w'
      go_simp
      with_reducible rfl
     rotate_left
     ·simp only [Act.put, List.setIfInBounds_toArray, List.set_cons_zero, List.set_cons_succ, i64_w, i32_w]
      rfl
     refine done_ (by kernel_rfl) ?_
     have hcz15_0 := bc BK242 0 (.int .i64 a0_0)
     have hcz15_1 := bc BK242 1 (.slice A0_1 l0_1.length c0_1)
     have hfz15_0 := blk_frozen BK242.out 0
     have hfz15_1 := blk_frozen BK242.out 1
     try go_wp2
     go_loopg [4, 5, 24] kj1 (fun kq v4 v5 v24 w' => ∃ (x4_2 : Int) (x5_2 : Int) (x24_2 : Int), v4 = .int .i64 x4_2 ∧ v5 = .int .i64 x5_2 ∧ v24 = .int .i64 x24_2 ∧ Aside0 (impl_BestClue.l0 kq x4_2 x5_2 (l0_1.length : Int) x24_2 a0_0 l0_1 = some (r1, r2)) ∧ Aside0 (kq ≤ kj1) ∧ Aside0 (w'.heap[gb242]? = some (.cells #[.int .i64 a0_0, (.slice A0_1 l0_1.length c0_1)] 38 (0, 0))) ∧ Aside0 (Below w.heap.size w w'))
     case atStart => exact ⟨(0), (wrap64 ((ji13) + 1)), (0), (rs), (by first | rfl | (simp; done) | (simp only [← hji13] <;> (first | rfl | simp)) | (simp [*]; done)), (rs), H', ⟨Nat.le_refl _⟩, ⟨pk BK242⟩, ⟨bw⟩⟩
     case round =>
      clear H'
      try clear c1
      try clear p2
      try clear c3
      try clear c5
      try clear p6
      try clear c7
      try clear c11
      try clear c12
      try clear c12b0
      try clear c12b1
      try clear hcz15_0
      try clear hcz15_1
      try clear hcz6_0
      try clear hcz6_1
      try clear hcz8_0
      try clear hcz8_1
      try clear hcz9_0
      try clear hcz9_1
      try clear hfz15_0
      try clear hfz15_1
      try clear hfz6_0
      try clear hfz6_1
      try clear hfz8_0
      try clear hfz8_1
      try clear hfz9_0
      try clear hfz9_1
      try clear p2
      obtain ⟨x4_2, x5_2, x24_2, rfl, rfl, rfl, HA, HK2, BK242, HB⟩ := hrel
      cases gk with
      | zero => exact absurd HA.out (by simp [impl_BestClue.l0])
      | succ k2 =>
       have H := HA.out
       clear HA
       simp only [impl_BestClue.l0] at H
       by_cases c16 : x24_2 < (l0_1.length : Int)
       ·rw [if_pos c16] at H
        have c16b0 : decide (x24_2 < (l0_1.length : Int)) = true := decide_eq_true c16
        clear c16
        by_cases c17 : 0 ≤ x24_2
        ·rw [if_pos c17] at H
         have c17b0 := eq_true c17
         have c17b1 : decide (0 ≤ x24_2) = true := decide_eq_true c17
         clear c17
         by_cases c18 : x24_2 ≤ (wrap64 (x24_2 + 1))
         ·rw [if_pos c18] at H
          have c18b0 := eq_true c18
          have c18b1 : decide (x24_2 ≤ (wrap64 (x24_2 + 1))) = true := decide_eq_true c18
          by_cases c19 : (wrap64 (x24_2 + 1)) ≤ (l0_1.length : Int)
          ·rw [if_pos c19] at H
           have c19b0 := eq_true c19
           have c19b1 : decide ((wrap64 (x24_2 + 1)) ≤ (l0_1.length : Int)) = true := decide_eq_true c19
           obtain ⟨y244, hy244⟩ : ∃ y_ : List (S33), y_ = ((l0_1.take ((wrap64 (x24_2 + 1)) : Int).toNat).drop (x24_2 : Int).toNat) := ⟨_, rfl⟩
           replace H : ((impl_solutions.f k2 a0_0 y244).bind fun t248 => (if (t248.length : Int) < x5_2 then (impl_BestClue.l0 k2 x24_2 (t248.length : Int) (l0_1.length : Int) (wrap64 (x24_2 + 1)) a0_0 l0_1) else (impl_BestClue.l0 k2 x4_2 x5_2 (l0_1.length : Int) (wrap64 (x24_2 + 1)) a0_0 l0_1))) = some (r1, r2) := by first | (rw [hy244]; with_reducible exact H) | (have H2_ := (Option.bind_some _ _).symm.trans H; rw [hy244]; with_reducible exact H2_) | (have H2_ := (Option.bind_some _ _).symm.trans H; with_reducible exact H2_) | with_reducible exact H | (rw [hy244]; exact H) | exact H
           have Ny244 := Aside0.mk hy244
           clear hy244
           replace H := Option.bind_eq_some_iff.mp H
           obtain ⟨t248, A200, H⟩ := H
           (try dsimp only at H)
           have A20 := Aside0.mk A200
           clear A200
           by_cases c21 : (t248.length : Int) < x5_2
           ·rw [if_pos c21] at H
            have c21b0 : decide ((t248.length : Int) < x5_2) = true := decide_eq_true c21
            clear c21
            have H' := Aside0.mk H
            clear H
            try go_wp2
            replace BK242 := Aside0.mk (blk_drew BK242.out)
            replace HB := Aside0.mk (below_drew1 HB.out)
            have q23 : ((wrap64 (x24_2 + 1)) : Int) ≤ ((l0_1.length : Int) : Int) := of_decide_eq_true (by first | (with_reducible assumption) | assumption)
            obtain ⟨i023, hi023, _, hsz23, _⟩ := info_parts info33
            have hroom23 : l0_1.length ≤ c0_1 := HC0_1.out
            have hC23 : Kd.C k33 _ A0_1 l0_1.length l0_1 := HR0_1.out
            have ql23 : (x24_2 : Int) ≤ ((wrap64 (x24_2 + 1)) : Int) := of_decide_eq_true (by first | (with_reducible assumption) | assumption)
            have q023 : (0 : Int) ≤ (x24_2 : Int) := of_decide_eq_true (by first | (with_reducible assumption) | assumption)
            have hcut23 := cut_mid (P := Tryd.prog) 36 33 .i64 .i64 Tryd.underlying36 hi023 4 hsz23 A0_1 l0_1.length c0_1 x24_2 (wrap64 (x24_2 + 1)) q023 ql23 q23 hroom23
            have hr23 := Kd.C_mid (lo := (x24_2 : Int).toNat) (hi := ((wrap64 (x24_2 + 1)) : Int).toNat) (c := c0_1) hC23 (by omega) (by omega) hroom23
            obtain ⟨A23, hA23⟩ : ∃ A1, A1 = (if c0_1 = (x24_2 : Int).toNat then A0_1 else (A0_1 : Option Addr).map (·.add ((x24_2 : Int).toNat * 4))) := ⟨_, rfl⟩
            obtain ⟨c23, hc23⟩ : ∃ c1, c1 = c0_1 - (x24_2 : Int).toNat := ⟨_, rfl⟩
            have hy23 : y244.length = ((wrap64 (x24_2 + 1)) : Int).toNat - (x24_2 : Int).toNat := (by rw [Ny244.out, List.length_drop, List.length_take] <;> omega)
            rw [show ((l0_1).take ((wrap64 (x24_2 + 1)) : Int).toNat).drop (x24_2 : Int).toNat = y244 from Ny244.out.symm] at hr23
            replace hr23 : Kd.C k33 _ A23 y244.length y244 := (by rw [hA23]; exact hr23)
            rw [← hy23, ← hA23, ← hc23] at hcut23
            have HR247 := Aside0.mk hr23
            have HC247 := Aside0.mk (show y244.length ≤ c23 from by rw [hy23, hc23]; exact Nat.sub_le_sub_right (Nat.le_trans (by omega) hroom23) _)
            clear hr23 hC23 hroom23 hi023 hsz23 hc23
            have KY23 := Aside0.mk hy23
            have KA23 := Aside0.mk hA23
            clear hy23 hA23
            replace q23 := eq_true q23
            refine start_ (n := 11) (S := fun w' => w'.cell? ⟨gb242, 0, none⟩ = some (.int .i64 a0_0) ∧ w'.cell? ⟨gb242, 1, none⟩ = some (.slice A0_1 l0_1.length c0_1)) (ds := []) #[false, false, false, false, false, false, false, false, false, false, false] (by kernel_rfl) rfl rfl ⟨ec BK242, ec BK242⟩ (fun hHeld => ?_); refine with_tabW impl_BestClue.tab7 impl_BestClue.bits7 (fun HT_ HW_ => ?_)
            generalize wr.drew = w22 at BK242 HB HR247 hHeld ⊢
            refine pu 0 (some 27) #[true, false, false, false, false, false, false, false, false, false, false] ?_
            refine pu 2 (some 29) #[true, false, true, false, false, false, false, false, false, false, false] ?_
            refine pu 4 (some 31) #[true, false, true, false, true, false, false, false, false, false, false] ?_
            refine pu 5 (some 32) #[true, false, true, false, true, true, false, false, false, false, false] ?_
            refine pu 6 (some 33) #[true, false, true, false, true, true, true, false, false, false, false] ?_
            refine take_ (i := 1) (N := some 28) (v := ?_) (a' := ?_) #[true, true, true, false, true, true, true, false, false, false, false] rfl rfl (take_ofW HT_.out HW_.out (by kernel_rfl)) (fun _ _ _ h => h) (Or.inl ⟨by rfl, ?_⟩) hHeld ?_ ?_
            rotate_left
            ·rintro w' ⟨s0, s1⟩
             go_simp
             with_reducible rfl
            rotate_left
            ·simp only [Act.put, List.setIfInBounds_toArray, List.set_cons_zero, List.set_cons_succ, i64_w, i32_w]
             rfl
            refine take_ (i := 3) (N := some 30) (v := ?_) (a' := ?_) #[true, true, true, true, true, true, true, false, false, false, false] rfl rfl (take_ofW HT_.out HW_.out (by kernel_rfl)) (fun _ _ _ h => h) (Or.inl ⟨by rfl, ?_⟩) hHeld ?_ ?_
            rotate_left
            ·rintro w' ⟨s0, s1⟩
             go_simp
             with_reducible rfl
            rotate_left
            ·simp only [Act.put, List.setIfInBounds_toArray, List.set_cons_zero, List.set_cons_succ, i64_w, i32_w]
             rfl
            refine pu 7 (some 34) #[true, true, true, true, true, true, true, true, false, false, false] ?_
            refine one_ (i := 8) (N := some 35) #[true, true, true, true, true, true, true, true, true, false, false] rfl rfl (one_of HT_.out (by kernel_rfl)) (by decide) (fun K hK => ?_)
            refine goes_ Tryd.func77 (by kernel_rfl) rfl #[.int .i64 a0_0, .slice A23 y244.length c23] (by rfl) rfl rfl (by (try simp only [List.map_toArray, List.map_cons, List.map_nil]); first | done | rfl | (simp only [List.length_drop, List.length_take]; rfl)) ?_
            with_reducible refine (impl_solutions.calls k2 a0_0 _ _ y244 t248 _ ?side1 ?side2 ?side3 A20.out).mono ?_
            (case side1 => first | exact HMM.out | exact Dr.Tab.below HMM.out bw | (repeat (first | exact HMM.out | apply Dr.Tab.drewN | apply Dr.Tab.drew | apply Dr.Tab.alloc)))
            (case side2 => repeat (first | exact (Kd.C_below HR247.out HB.out) | (with_reducible refine Kd.C_alloc ?_ _) | (with_reducible refine Kd.C_drewN ?_ _) | (with_reducible refine Kd.C_drew ?_)))
            (case side3 => exact HC247.out)
            rintro e w24 ⟨v249, rfl, ho0, hb⟩
            refine ⟨_, rfl, ?_⟩
            have HO250 := Aside0.mk (Kd.R_lower ho0 (below_size bw))
            replace BK242 := nk BK242 hb
            replace HB := bs hb
            (try clear hb)
            (try clear ho0)
            obtain ⟨Ao25, co25, eo25⟩ := Kd.R_slice HO250.out
            (first | subst eo25 | (injection eo25 with f1_ f2_ f3_; have f4_ := f1_.symm; have f5_ := f3_.symm; clear f1_ f2_ f3_; subst f4_; subst f5_))
            refine hK.out _ _ ⟨ec BK242, ec BK242⟩ (fun hHeld => ?_)
            clear hK K
            refine nm (some 35) ?_
            refine pu 9 (some 36) #[true, true, true, true, true, true, true, true, true, true, false] ?_
            refine pu 10 (some 7) #[true, true, true, true, true, true, true, true, true, true, true] ?_
            refine done_ (done_of HT_.out (by kernel_rfl)) ?_
            try go_wp2
            go_roundg k2
            case measure => have := HJ1.out; have := HK2.out; omega
            case rel => exact ⟨(x24_2), ((t248.length : Int)), (wrap64 (x24_2 + 1)), (rs), (rs), (rs), H', ⟨by have := HJ1.out; have := HK2.out; omega⟩, ⟨pk BK242⟩, ⟨bw⟩⟩
           ·rw [if_neg c21] at H
            have c21b0 : decide ((t248.length : Int) < x5_2) = false := decide_eq_false c21
            clear c21
            have H' := Aside0.mk H
            clear H
            try go_wp2
            replace BK242 := Aside0.mk (blk_drew BK242.out)
            replace HB := Aside0.mk (below_drew1 HB.out)
            have q27 : ((wrap64 (x24_2 + 1)) : Int) ≤ ((l0_1.length : Int) : Int) := of_decide_eq_true (by first | (with_reducible assumption) | assumption)
            obtain ⟨i027, hi027, _, hsz27, _⟩ := info_parts info33
            have hroom27 : l0_1.length ≤ c0_1 := HC0_1.out
            have hC27 : Kd.C k33 _ A0_1 l0_1.length l0_1 := HR0_1.out
            have ql27 : (x24_2 : Int) ≤ ((wrap64 (x24_2 + 1)) : Int) := of_decide_eq_true (by first | (with_reducible assumption) | assumption)
            have q027 : (0 : Int) ≤ (x24_2 : Int) := of_decide_eq_true (by first | (with_reducible assumption) | assumption)
            have hcut27 := cut_mid (P := Tryd.prog) 36 33 .i64 .i64 Tryd.underlying36 hi027 4 hsz27 A0_1 l0_1.length c0_1 x24_2 (wrap64 (x24_2 + 1)) q027 ql27 q27 hroom27
            have hr27 := Kd.C_mid (lo := (x24_2 : Int).toNat) (hi := ((wrap64 (x24_2 + 1)) : Int).toNat) (c := c0_1) hC27 (by omega) (by omega) hroom27
            obtain ⟨A27, hA27⟩ : ∃ A1, A1 = (if c0_1 = (x24_2 : Int).toNat then A0_1 else (A0_1 : Option Addr).map (·.add ((x24_2 : Int).toNat * 4))) := ⟨_, rfl⟩
            obtain ⟨c27, hc27⟩ : ∃ c1, c1 = c0_1 - (x24_2 : Int).toNat := ⟨_, rfl⟩
            have hy27 : y244.length = ((wrap64 (x24_2 + 1)) : Int).toNat - (x24_2 : Int).toNat := (by rw [Ny244.out, List.length_drop, List.length_take] <;> omega)
            rw [show ((l0_1).take ((wrap64 (x24_2 + 1)) : Int).toNat).drop (x24_2 : Int).toNat = y244 from Ny244.out.symm] at hr27
            replace hr27 : Kd.C k33 _ A27 y244.length y244 := (by rw [hA27]; exact hr27)
            rw [← hy27, ← hA27, ← hc27] at hcut27
            have HR247 := Aside0.mk hr27
            have HC247 := Aside0.mk (show y244.length ≤ c27 from by rw [hy27, hc27]; exact Nat.sub_le_sub_right (Nat.le_trans (by omega) hroom27) _)
            clear hr27 hC27 hroom27 hi027 hsz27 hc27
            have KY27 := Aside0.mk hy27
            have KA27 := Aside0.mk hA27
            clear hy27 hA27
            replace q27 := eq_true q27
            refine start_ (n := 11) (S := fun w' => w'.cell? ⟨gb242, 0, none⟩ = some (.int .i64 a0_0) ∧ w'.cell? ⟨gb242, 1, none⟩ = some (.slice A0_1 l0_1.length c0_1)) (ds := []) #[false, false, false, false, false, false, false, false, false, false, false] (by kernel_rfl) rfl rfl ⟨ec BK242, ec BK242⟩ (fun hHeld => ?_); refine with_tabW impl_BestClue.tab7 impl_BestClue.bits7 (fun HT_ HW_ => ?_)
            generalize wr.drew = w26 at BK242 HB HR247 hHeld ⊢
            refine pu 0 (some 27) #[true, false, false, false, false, false, false, false, false, false, false] ?_
            refine pu 2 (some 29) #[true, false, true, false, false, false, false, false, false, false, false] ?_
            refine pu 4 (some 31) #[true, false, true, false, true, false, false, false, false, false, false] ?_
            refine pu 5 (some 32) #[true, false, true, false, true, true, false, false, false, false, false] ?_
            refine pu 6 (some 33) #[true, false, true, false, true, true, true, false, false, false, false] ?_
            refine take_ (i := 1) (N := some 28) (v := ?_) (a' := ?_) #[true, true, true, false, true, true, true, false, false, false, false] rfl rfl (take_ofW HT_.out HW_.out (by kernel_rfl)) (fun _ _ _ h => h) (Or.inl ⟨by rfl, ?_⟩) hHeld ?_ ?_
            rotate_left
            ·rintro w' ⟨s0, s1⟩
             go_simp
             with_reducible rfl
            rotate_left
            ·simp only [Act.put, List.setIfInBounds_toArray, List.set_cons_zero, List.set_cons_succ, i64_w, i32_w]
             rfl
            refine take_ (i := 3) (N := some 30) (v := ?_) (a' := ?_) #[true, true, true, true, true, true, true, false, false, false, false] rfl rfl (take_ofW HT_.out HW_.out (by kernel_rfl)) (fun _ _ _ h => h) (Or.inl ⟨by rfl, ?_⟩) hHeld ?_ ?_
            rotate_left
            ·rintro w' ⟨s0, s1⟩
             go_simp
             with_reducible rfl
            rotate_left
            ·simp only [Act.put, List.setIfInBounds_toArray, List.set_cons_zero, List.set_cons_succ, i64_w, i32_w]
             rfl
            refine pu 7 (some 34) #[true, true, true, true, true, true, true, true, false, false, false] ?_
            refine one_ (i := 8) (N := some 35) #[true, true, true, true, true, true, true, true, true, false, false] rfl rfl (one_of HT_.out (by kernel_rfl)) (by decide) (fun K hK => ?_)
            refine goes_ Tryd.func77 (by kernel_rfl) rfl #[.int .i64 a0_0, .slice A27 y244.length c27] (by rfl) rfl rfl (by (try simp only [List.map_toArray, List.map_cons, List.map_nil]); first | done | rfl | (simp only [List.length_drop, List.length_take]; rfl)) ?_
            with_reducible refine (impl_solutions.calls k2 a0_0 _ _ y244 t248 _ ?side1 ?side2 ?side3 A20.out).mono ?_
            (case side1 => first | exact HMM.out | exact Dr.Tab.below HMM.out bw | (repeat (first | exact HMM.out | apply Dr.Tab.drewN | apply Dr.Tab.drew | apply Dr.Tab.alloc)))
            (case side2 => repeat (first | exact (Kd.C_below HR247.out HB.out) | (with_reducible refine Kd.C_alloc ?_ _) | (with_reducible refine Kd.C_drewN ?_ _) | (with_reducible refine Kd.C_drew ?_)))
            (case side3 => exact HC247.out)
            rintro e w28 ⟨v249, rfl, ho0, hb⟩
            refine ⟨_, rfl, ?_⟩
            have HO250 := Aside0.mk (Kd.R_lower ho0 (below_size bw))
            replace BK242 := nk BK242 hb
            replace HB := bs hb
            (try clear hb)
            (try clear ho0)
            obtain ⟨Ao29, co29, eo29⟩ := Kd.R_slice HO250.out
            (first | subst eo29 | (injection eo29 with f1_ f2_ f3_; have f4_ := f1_.symm; have f5_ := f3_.symm; clear f1_ f2_ f3_; subst f4_; subst f5_))
            refine hK.out _ _ ⟨ec BK242, ec BK242⟩ (fun hHeld => ?_)
            clear hK K
            refine nm (some 35) ?_
            refine pu 9 (some 36) #[true, true, true, true, true, true, true, true, true, true, false] ?_
            refine pu 10 (some 7) #[true, true, true, true, true, true, true, true, true, true, true] ?_
            refine done_ (done_of HT_.out (by kernel_rfl)) ?_
            try go_wp2
            go_roundg k2
            case measure => have := HJ1.out; have := HK2.out; omega
            case rel => exact ⟨(x4_2), (x5_2), (wrap64 (x24_2 + 1)), (rs), (rs), (rs), H', ⟨by have := HJ1.out; have := HK2.out; omega⟩, ⟨pk BK242⟩, ⟨bw⟩⟩
          ·rw [if_neg c19] at H
           exact absurd H (by simp)
         ·rw [if_neg c18] at H
          exact absurd H (by simp)
        ·rw [if_neg c17] at H
         exact absurd H (by simp)
       ·rw [if_neg c16] at H
        have c16b0 : decide (x24_2 < (l0_1.length : Int)) = false := decide_eq_false c16
        clear c16
        simp only [Option.some.injEq, Prod.mk.injEq] at H
        obtain ⟨rfl, rfl⟩ := H
        go_wp2
        go_ret2
        exact ⟨by first | rfl | (simp [errW_none, errW_some] <;> rfl) | (simp only [← hji13]; first | rfl | (simp [errW_none, errW_some] <;> rfl)) | (simp [*, errW_none, errW_some] <;> rfl), bw⟩
    ·rw [if_neg c12] at H
     exact absurd H (by simp)

end Go.Proofs.YtmindeeacfdonaaDoor.PFnExactBestClue
