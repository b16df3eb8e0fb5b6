-- Laid by xprint, a program of this session that runs over the kit's print.
import Derived.Test.YtfaakdokcldnkaaGreatDoorPFnRowsGuessedOfAllx11
namespace Go.Proofs.YtfaakdokcldnkaaGreatDoor.PFnRowsGuessedOfAll
open Go.RowKit Go.Proofs.YtfaakdokcldnkaaGreatDoorW.PrintWords Go.Proofs.YtfaakdokcldnkaaGreatDoorW.PrintLast Go.Proofs.YtfaakdokcldnkaaGreatDoorW.PrintMore Go.Proofs.YtfaakdokcldnkaaGreatDoor.Sq
attribute [local go_sem] max2_int min2_int max_two min_two max_three min_three max_four min_four   -- for this text's walks alone
set_option linter.unusedVariables false
set_option linter.unusedSimpArgs false

/-! ### impl_BestClue: function 18 -/
mutual
def impl_BestClue.j0 : Nat → Bool → Int → List (S42) → Option (Int × Bool)
  | 0, _, _, _ => none
  | k + 1, x16, x331000, x331001 => if x16 = true then (some (0, false)) else (if 0 ≤ x331000 then (impl_BestClue.l0 k 0 (wrap64 ((shl .i64 1 x331000) + 1)) (x331001.length : Int) 0 x331000 x331001) else (none))
def impl_BestClue.l0 : Nat → Int → Int → Int → Int → Int → List (S42) → Option (Int × Bool)
  | 0, _, _, _, _, _, _ => none
  | k + 1, x4, x5, x23, x24, x331000, x331001 => if x24 < x23 then (if 0 ≤ x24 then (if x24 ≤ (wrap64 (x24 + 1)) then (if (wrap64 (x24 + 1)) ≤ (x331001.length : Int) then ((impl_solutions.f k x331000 ((x331001.take ((wrap64 (x24 + 1)) : Int).toNat).drop (x24 : Int).toNat)).bind fun t336 => (if (t336.length : Int) < x5 then (impl_BestClue.l0 k x24 (t336.length : Int) x23 (wrap64 (x24 + 1)) x331000 x331001) else (impl_BestClue.l0 k x4 x5 x23 (wrap64 (x24 + 1)) x331000 x331001))) else (none)) else (none)) else (none)) else (some (x4, true))
end
def impl_BestClue.f (k : Nat) (a0_0 : Int) (l0_1 : List (S42)) : Option (Int × Bool) := (impl_isPuzzle.f k a0_0 l0_1).bind fun t331 => (if t331 = true then (impl_BestClue.j0 k ((l0_1.length : Int) == 0) a0_0 l0_1) else (impl_BestClue.j0 k true a0_0 l0_1))
theorem impl_BestClue.mono_l : ∀ k, (∀ y0 y1 y2, LeO (impl_BestClue.j0 k y0 y1 y2) (impl_BestClue.j0 (k + 1) y0 y1 y2)) ∧ (∀ y0 y1 y2 y3 y4 y5, LeO (impl_BestClue.l0 k y0 y1 y2 y3 y4 y5) (impl_BestClue.l0 (k + 1) y0 y1 y2 y3 y4 y5))
  | 0 => ⟨fun _ _ _ r h => by simp [impl_BestClue.j0] at h, fun _ _ _ _ _ _ r h => by simp [impl_BestClue.l0] at h⟩
  | k + 1 => by
    obtain ⟨ih0, ih1⟩ := impl_BestClue.mono_l k
    refine ⟨?q0, ?q1⟩
    case' q0 => (intros; unfold impl_BestClue.j0)
    case' q1 => (intros; unfold impl_BestClue.l0)
    all_goals repeat' first
     | (with_reducible exact ih0 _ _ _)
     | (with_reducible exact ih1 _ _ _ _ _ _)
     | (with_reducible exact impl_isPuzzle.mono _ _ _)
     | (with_reducible exact impl_solutions.mono _ _ _)
     | (with_reducible exact LeO.refl _)
     | (with_reducible exact LeO.none _)
     | (with_reducible refine LeO.ite ?_ ?_)
     | (with_reducible refine LeO.bind ?_ (fun _ => ?_))
     | exact ih0 _ _ _
     | exact ih1 _ _ _ _ _ _
     | exact impl_isPuzzle.mono _ _ _
     | exact impl_solutions.mono _ _ _
     | exact LeO.none _
     | refine LeO.ite ?_ ?_
     | refine LeO.bind ?_ (fun _ => ?_)
theorem impl_BestClue.mono : ∀ a0 a1 k, LeO (impl_BestClue.f k a0 a1) (impl_BestClue.f (k + 1) a0 a1) := by
  intro a0 a1 k
  obtain ⟨ih0, ih1⟩ := impl_BestClue.mono_l k
  unfold impl_BestClue.f
  repeat' first
      | (with_reducible exact ih0 _ _ _)
      | (with_reducible exact ih1 _ _ _ _ _ _)
      | (with_reducible exact impl_isPuzzle.mono _ _ _)
      | (with_reducible exact impl_solutions.mono _ _ _)
      | (with_reducible exact LeO.refl _)
      | (with_reducible exact LeO.none _)
      | (with_reducible refine LeO.ite ?_ ?_)
      | (with_reducible refine LeO.bind ?_ (fun _ => ?_))
      | exact ih0 _ _ _
      | exact ih1 _ _ _ _ _ _
      | exact impl_isPuzzle.mono _ _ _
      | exact impl_solutions.mono _ _ _
      | exact LeO.none _
      | refine LeO.ite ?_ ?_
      | refine LeO.bind ?_ (fun _ => ?_)
def impl_BestClue.T7 : Bool × List (List Nat × List Nat) := (true, [([], []), ([0], [0]), ([], []), ([2], [2]), ([], []), ([], []), ([5], [5]), ([3, 4, 6], [3, 4, 6]), ([1, 7], [1, 7]), ([8], [8]), ([9, 8, 0, 1, 2, 3, 4, 5, 6, 7, 8, 9], [9])])
def impl_BestClue.B7 : List Nat := [0, 1, 0, 4, 0, 0, 32, 124, 255, 511, 1023]
theorem impl_BestClue.tab7 : rtab .any (opsOf Tryz.f18 7) = impl_BestClue.T7 := by kernel_rfl
theorem impl_BestClue.bits7 : waitsOk impl_BestClue.T7.2 impl_BestClue.B7 = true := by kernel_rfl
set_option maxHeartbeats 8000000 in
set_option maxRecDepth 100000 in
theorem impl_BestClue.calls (k : Nat) (a0_0 : Int) (A0_1 : Option Addr) (c0_1 : Nat) (l0_1 : List (S42)) (r1 : Int) (r2 : Bool) (w : World) (hm : Dr.Tab w) (hr0_1 : Kd.C k42 w A0_1 l0_1.length l0_1) (hc0_1 : l0_1.length ≤ c0_1) (h : impl_BestClue.f k a0_0 l0_1 = some (r1, r2)) :
  Calls Tryz.prog 18 #[.agg #[.int .i64 a0_0, .slice A0_1 l0_1.length c0_1]] w fun e w' => e = .returned (.tuple #[.int .i64 r1, .bool r2]) ∧ Below w.heap.size w w' := by
 have hu24 := Tryz.underlying24
 have HR0_1 := Aside0.mk hr0_1
 have HC0_1 := Aside0.mk hc0_1
 clear hr0_1 hc0_1
 have HB := Aside0.mk (Below.refl w.heap.size w)
 have HMM := Aside0.mk hm
 clear hm
 unfold impl_BestClue.f at h
 have H := h
 clear h
 have HC2 := Aside0.mk H
 clear H
 go_enter Tryz.func18, Tryz.ntmps18
 go_upto_region 1 with (first | ((with_reducible refine gd 1 ?_); (try (refine gate_guard (by rfl) ?_; dsimp only)); refine bx 1 24 #[.int .i64 a0_0, .slice A0_1 l0_1.length c0_1] ?_; intro gb330 hg w3 hbox hb; have BK330 := hbox; have GW330 := gs hg; have GE330 := gs hg; replace HB := bs hb; clear hb hbox hg))
 (try simp only [Act.put, List.setIfInBounds_toArray, List.set_cons_zero, List.set_cons_succ])
 go_cut [16] (fun v16 wc => ∃ (kq : Nat) (x16_1 : Bool), v16 = .bool x16_1 ∧ Aside0 (impl_BestClue.j0 kq x16_1 a0_0 l0_1 = some (r1, r2)) ∧ Aside0 (kq ≤ k) ∧ Aside0 (wc.heap[gb330]? = some (.cells #[.int .i64 a0_0, (.slice A0_1 l0_1.length c0_1)] 24 (0, 0))) ∧ Aside0 (Below w.heap.size w wc))
 case first =>
  have H := HC2.out
  clear HC2
  obtain ⟨t331, A4, H⟩ := ob H
  (try dsimp only at H)
  by_cases c5 : t331 = true
  ·subst c5
   rw [if_pos rfl] at H
   have H' := Aside0.mk H
   clear H
   obtain ⟨hcz6_0, hcz6_1, hfz6_0, hfz6_1⟩ := z2 BK330
   go_wp2_with (first | ((with_reducible refine gc 33 ?_); refine gl (some 9) Tryz.func33 #[.agg #[.int .i64 a0_0, .slice A0_1 l0_1.length c0_1]] ?_; (with_reducible refine (impl_isPuzzle.calls k a0_0 _ _ l0_1 true _ ?_ ?_ A4.out).mono ?_); exact cb HR0_1; exact HC0_1.out; rintro e w7 ⟨rfl, hb⟩; refine ⟨_, rfl, ?_⟩; replace BK330 := nk BK330 hb; replace HB := bs hb; (try clear hb); obtain ⟨hcz8_0, hcz8_1, hfz8_0, hfz8_1⟩ := z2 BK330))
   go_meet
   case rel => exact ⟨_, (((l0_1.length : Int) == 0)), (rs), H', ⟨by first | omega | exact Nat.le_refl _⟩, ⟨pk BK330⟩, ⟨bw⟩⟩
  replace c5 := Bool.eq_false_iff.mpr c5
  subst c5
  rw [if_neg (show ¬ (false = true) by decide)] at H
  have H' := Aside0.mk H
  clear H
  obtain ⟨hcz9_0, hcz9_1, hfz9_0, hfz9_1⟩ := z2 BK330
  go_wp2_with (first | ((with_reducible refine gc 33 ?_); refine gl (some 9) Tryz.func33 #[.agg #[.int .i64 a0_0, .slice A0_1 l0_1.length c0_1]] ?_; (with_reducible refine (impl_isPuzzle.calls k a0_0 _ _ l0_1 false _ ?_ ?_ A4.out).mono ?_); exact cb HR0_1; exact HC0_1.out; rintro e w10 ⟨rfl, hb⟩; refine ⟨_, rfl, ?_⟩; replace BK330 := nk BK330 hb; replace HB := bs hb; (try clear hb)))
  go_meet
  case rel => exact ⟨_, (true), (rs), H', ⟨by first | omega | exact Nat.le_refl _⟩, ⟨pk BK330⟩, ⟨bw⟩⟩
 case rest =>
  clear HC2
  try clear c1
  try clear p2
  try clear c3
  try clear c5
  try clear hcz6_0
  try clear hcz6_1
  try clear hcz8_0
  try clear hcz8_1
  try clear hcz9_0
  try clear hcz9_1
  try clear hfz6_0
  try clear hfz6_1
  try clear hfz8_0
  try clear hfz8_1
  try clear hfz9_0
  try clear hfz9_1
  obtain ⟨kq, x16_1, rfl, HA, HJ1, BK330, HB⟩ := hcut
  cases kq with
  | zero => exact absurd HA.out (by simp [impl_BestClue.j0])
  | succ kj1 =>
   have H := HA.out
   clear HA
   simp only [impl_BestClue.j0] at H
   by_cases c11 : x16_1 = true
   ·subst c11
    rw [if_pos rfl] at H
    simp only [Option.some.injEq, Prod.mk.injEq] at H
    obtain ⟨rfl, rfl⟩ := H
    go_wp2
    go_ret2
    exact ⟨rs, bw⟩
   replace c11 := Bool.eq_false_iff.mpr c11
   subst c11
   rw [if_neg (show ¬ (false = true) by decide)] at H
   obtain ⟨c12, H⟩ := oi H
   have c12b0 := eq_true c12
   have c12b1 := decide_eq_true c12
   clear c12
   obtain ⟨ji13, hji13⟩ : ∃ j_ : Int, (shl .i64 1 a0_0) = j_ := ⟨_, rfl⟩
   replace H : (impl_BestClue.l0 kj1 0 (wrap64 ((ji13) + 1)) (l0_1.length : Int) 0 a0_0 l0_1) = some (r1, r2) := by first | (rw [hji13] at H; exact H) | (simp only [hji13] at H ⊢; exact H)
   have hji13_ : (IntKind.i64.wrap (1 * 2 ^ min a0_0.toNat 64)) = ji13 := hji13
   have hji13z : a0_0 ≤ 64 → (IntKind.i64.wrap (1 * 2 ^ a0_0.toNat)) = ji13 := shl_small hji13
   have hji13u : (IntKind.i64.wrap (2 ^ min a0_0.toNat 64)) = ji13 := by have h_ := hji13_; rw [Int.one_mul] at h_; exact h_
   have hji13v : a0_0 ≤ 64 → (IntKind.i64.wrap (2 ^ a0_0.toNat)) = ji13 := fun hle_ => by have h_ := hji13z hle_; rw [Int.one_mul] at h_; exact h_
   have hji13y : (wrap64 (1 * 2 ^ min a0_0.toNat 64)) = ji13 := (i64_w _).symm.trans hji13_
   have hji13x : a0_0 ≤ 64 → (wrap64 (1 * 2 ^ a0_0.toNat)) = ji13 := fun h_ => (i64_w _).symm.trans (hji13z h_)
   have H' := Aside0.mk H
   clear H
   try go_wp2
   replace BK330 := Aside0.mk (blk_drew BK330.out)
   replace HB := Aside0.mk (below_drew1 HB.out)
   refine start_ (n := 6) (S := fun w' => w'.cell? ⟨gb330, 0, none⟩ = some (.int .i64 a0_0) ∧ w'.cell? ⟨gb330, 1, none⟩ = some (.slice A0_1 l0_1.length c0_1)) (ds := []) (tb 6 0) (by kernel_rfl) rfl rfl ⟨ec BK330, ec BK330⟩ (fun hHeld => ?_)
   generalize wc.drew = w14 at BK330 HB hHeld ⊢
   refine pure_ (i := 0) (N := some 17) (v := ?_) (a' := ?_) (tb 6 1) rfl rfl (by kernel_rfl) (fun _ _ _ h => h) (Or.inl ⟨by rfl, ?_⟩) ?_ ?_
   rotate_left
   ·intro w'
    go_simp
    with_reducible rfl
   rotate_left
   ·simp only [Act.put, List.setIfInBounds_toArray, List.set_cons_zero, List.set_cons_succ, i64_w, i32_w]
    rfl
   refine pure_ (i := 4) (N := some 4) (v := ?_) (a' := ?_) (tb 6 17) rfl rfl (by kernel_rfl) (fun _ _ _ h => h) (Or.inl ⟨by rfl, ?_⟩) ?_ ?_
   rotate_left
   ·intro w'
    go_simp
    with_reducible rfl
   rotate_left
   ·simp only [Act.put, List.setIfInBounds_toArray, List.set_cons_zero, List.set_cons_succ, i64_w, i32_w]
    rfl
   refine take_ (i := 1) (N := some 18) (v := ?_) (a' := ?_) (tb 6 19) rfl rfl (by kernel_rfl) (fun _ _ _ h => h) (Or.inl ⟨by rfl, ?_⟩) hHeld ?_ ?_
   rotate_left
   ·rintro w' ⟨s0, s1⟩
    go_simp
    with_reducible rfl
   rotate_left
   ·simp only [Act.put, List.setIfInBounds_toArray, List.set_cons_zero, List.set_cons_succ, i64_w, i32_w]
    rfl
   refine pure_ (i := 2) (N := some 19) (v := ?_) (a' := ?_) (tb 6 23) rfl rfl (by kernel_rfl) (fun _ _ _ h => h) (Or.inl ⟨by rfl, ?_⟩) ?_ ?_
   rotate_left
   ·intro w'
    go_simp
    with_reducible rfl
   rotate_left
   ·simp only [Act.put, List.setIfInBounds_toArray, List.set_cons_zero, List.set_cons_succ, i64_w, i32_w]
    rfl
   refine pure_ (i := 3) (N := some 20) (v := ?_) (a' := ?_) (tb 6 31) rfl rfl (by kernel_rfl) (fun _ _ _ h => h) (Or.inl ⟨by rfl, ?_⟩) ?_ ?_
   rotate_left
   ·intro w'
    go_simp
    with_reducible rfl
   rotate_left
   ·simp only [Act.put, List.setIfInBounds_toArray, List.set_cons_zero, List.set_cons_succ, i64_w, i32_w]
    rfl
   refine pure_ (i := 5) (N := some 5) (v := ?_) (a' := ?_) (tb 6 63) rfl rfl (by kernel_rfl) (fun _ _ _ h => h) (Or.inl ⟨by rfl, ?_⟩) ?_ ?_
   rotate_left
   ·intro w'
    go_simp
    with_reducible rfl
   rotate_left
   ·simp only [Act.put, List.setIfInBounds_toArray, List.set_cons_zero, List.set_cons_succ, i64_w, i32_w]
    rfl
   refine done_ (by kernel_rfl) ?_
   obtain ⟨hcz15_0, hcz15_1, hfz15_0, hfz15_1⟩ := z2 BK330
   try go_wp2
   go_loopg [4, 5, 24] kj1 (fun kq v4 v5 v24 w' => ∃ (x4_2 : Int) (x5_2 : Int) (x24_2 : Int), v4 = .int .i64 x4_2 ∧ v5 = .int .i64 x5_2 ∧ v24 = .int .i64 x24_2 ∧ Aside0 (impl_BestClue.l0 kq x4_2 x5_2 (l0_1.length : Int) x24_2 a0_0 l0_1 = some (r1, r2)) ∧ Aside0 (kq ≤ kj1) ∧ Aside0 (w'.heap[gb330]? = some (.cells #[.int .i64 a0_0, (.slice A0_1 l0_1.length c0_1)] 24 (0, 0))) ∧ Aside0 (Below w.heap.size w w'))
   case atStart => exact ⟨(0), (wrap64 ((ji13) + 1)), (0), (rs), (by first | rfl | (simp; done) | (simp only [← hji13] <;> (first | rfl | simp)) | (simp [*]; done)), (rs), H', ⟨Nat.le_refl _⟩, ⟨pk BK330⟩, ⟨bw⟩⟩
   case round =>
    clear H'
    try clear c1
    try clear p2
    try clear c3
    try clear c5
    try clear p6
    try clear c11
    try clear c12
    try clear c12b0
    try clear c12b1
    try clear hcz15_0
    try clear hcz15_1
    try clear hcz6_0
    try clear hcz6_1
    try clear hcz8_0
    try clear hcz8_1
    try clear hcz9_0
    try clear hcz9_1
    try clear hfz15_0
    try clear hfz15_1
    try clear hfz6_0
    try clear hfz6_1
    try clear hfz8_0
    try clear hfz8_1
    try clear hfz9_0
    try clear hfz9_1
    try clear p2
    obtain ⟨x4_2, x5_2, x24_2, rfl, rfl, rfl, HA, HK2, BK330, HB⟩ := hrel
    cases gk with
    | zero => exact absurd HA.out (by simp [impl_BestClue.l0])
    | succ k2 =>
     have H := HA.out
     clear HA
     simp only [impl_BestClue.l0] at H
     by_cases c16 : x24_2 < (l0_1.length : Int)
     ·rw [if_pos c16] at H
      have c16b0 := decide_eq_true c16
      clear c16
      obtain ⟨c17, H⟩ := oi H
      have c17b0 := eq_true c17
      have c17b1 := decide_eq_true c17
      clear c17
      obtain ⟨c18, H⟩ := oi H
      have c18b0 := eq_true c18
      have c18b1 := decide_eq_true c18
      obtain ⟨c19, H⟩ := oi H
      have c19b0 := eq_true c19
      have c19b1 := decide_eq_true c19
      obtain ⟨y332, hy332⟩ : ∃ y_ : List (S42), y_ = ((l0_1.take ((wrap64 (x24_2 + 1)) : Int).toNat).drop (x24_2 : Int).toNat) := ⟨_, rfl⟩
      replace H : ((impl_solutions.f k2 a0_0 y332).bind fun t336 => (if (t336.length : Int) < x5_2 then (impl_BestClue.l0 k2 x24_2 (t336.length : Int) (l0_1.length : Int) (wrap64 (x24_2 + 1)) a0_0 l0_1) else (impl_BestClue.l0 k2 x4_2 x5_2 (l0_1.length : Int) (wrap64 (x24_2 + 1)) a0_0 l0_1))) = some (r1, r2) := by first | (rw [hy332]; with_reducible exact H) | (have H2_ := (Option.bind_some _ _).symm.trans H; rw [hy332]; with_reducible exact H2_) | (have H2_ := (Option.bind_some _ _).symm.trans H; with_reducible exact H2_) | with_reducible exact H | (rw [hy332]; exact H) | exact H
      have Ny332 := Aside0.mk hy332
      clear hy332
      obtain ⟨t336, A20, H⟩ := ob H
      (try dsimp only at H)
      by_cases c21 : (t336.length : Int) < x5_2
      ·rw [if_pos c21] at H
       have c21b0 := decide_eq_true c21
       clear c21
       have H' := Aside0.mk H
       clear H
       try go_wp2
       replace BK330 := Aside0.mk (blk_drew BK330.out)
       replace HB := Aside0.mk (below_drew1 HB.out)
       have q23 : ((wrap64 (x24_2 + 1)) : Int) ≤ ((l0_1.length : Int) : Int) := of_decide_eq_true asm
       obtain ⟨i023, hi023, _, hsz23, _⟩ := info_parts info42
       have hroom23 : l0_1.length ≤ c0_1 := HC0_1.out
       have hC23 : Kd.C k42 _ A0_1 l0_1.length l0_1 := HR0_1.out
       have ql23 : (x24_2 : Int) ≤ ((wrap64 (x24_2 + 1)) : Int) := of_decide_eq_true asm
       have q023 : (0 : Int) ≤ (x24_2 : Int) := of_decide_eq_true asm
       have hcut23 := cut_mid (P := Tryz.prog) 22 42 .i64 .i64 Tryz.underlying22 hi023 4 hsz23 A0_1 l0_1.length c0_1 x24_2 (wrap64 (x24_2 + 1)) q023 ql23 q23 hroom23
       have hr23 := Kd.C_mid (lo := (x24_2 : Int).toNat) (hi := ((wrap64 (x24_2 + 1)) : Int).toNat) (c := c0_1) hC23 (by omega) (by omega) hroom23
       obtain ⟨A23, hA23⟩ : ∃ A1, A1 = (if c0_1 = (x24_2 : Int).toNat then A0_1 else (A0_1 : Option Addr).map (·.add ((x24_2 : Int).toNat * 4))) := ⟨_, rfl⟩
       obtain ⟨c23, hc23⟩ : ∃ c1, c1 = c0_1 - (x24_2 : Int).toNat := ⟨_, rfl⟩
       have hy23 : y332.length = ((wrap64 (x24_2 + 1)) : Int).toNat - (x24_2 : Int).toNat := (by rw [Ny332.out, List.length_drop, List.length_take] <;> omega)
       rw [show ((l0_1).take ((wrap64 (x24_2 + 1)) : Int).toNat).drop (x24_2 : Int).toNat = y332 from Ny332.out.symm] at hr23
       replace hr23 : Kd.C k42 _ A23 y332.length y332 := (by rw [hA23]; exact hr23)
       rw [← hy23, ← hA23, ← hc23] at hcut23
       have HR335 := Aside0.mk hr23
       have HC335 := Aside0.mk (show y332.length ≤ c23 from by rw [hy23, hc23]; exact Nat.sub_le_sub_right (Nat.le_trans (by omega) hroom23) _)
       clear hr23 hC23 hroom23 hi023 hsz23 hc23
       have KY23 := Aside0.mk hy23
       have KA23 := Aside0.mk hA23
       clear hy23 hA23
       replace q23 := eq_true q23
       refine start_ (n := 11) (S := fun w' => w'.cell? ⟨gb330, 0, none⟩ = some (.int .i64 a0_0) ∧ w'.cell? ⟨gb330, 1, none⟩ = some (.slice A0_1 l0_1.length c0_1)) (ds := []) (tb 11 0) (by kernel_rfl) rfl rfl ⟨ec BK330, ec BK330⟩ (fun hHeld => ?_); refine with_tabW impl_BestClue.tab7 impl_BestClue.bits7 (fun HT_ HW_ => ?_)
       generalize wr.drew = w22 at BK330 HB HR335 hHeld ⊢
       refine pu 0 (some 27) (tb 11 1) ?_
       refine pu 2 (some 29) (tb 11 5) ?_
       refine pu 4 (some 31) (tb 11 21) ?_
       refine pu 5 (some 32) (tb 11 53) ?_
       refine pu 6 (some 33) (tb 11 117) ?_
       refine tk 1 (some 28) (tb 11 119) hHeld ?_
       refine tk 3 (some 30) (tb 11 127) hHeld ?_
       refine pu 7 (some 34) (tb 11 255) ?_
       refine one_ (i := 8) (N := some 35) (tb 11 511) rfl rfl (one_of HT_.out (by kernel_rfl)) (by decide) (fun K hK => ?_)
       refine go1 Tryz.func34 #[.int .i64 a0_0, .slice A23 y332.length c23] ?_
       with_reducible refine (impl_solutions.calls k2 a0_0 _ _ y332 t336 _ ?side1 ?side2 ?side3 A20.out).mono ?_
       (case side1 => exact Dr.mm HMM)
       (case side2 => exact cb HR335)
       (case side3 => exact HC335.out)
       rintro e w24 ⟨v337, rfl, ho0, hb⟩
       refine ⟨_, rfl, ?_⟩
       have HO338 := Aside0.mk (Kd.R_lower ho0 (below_size bw))
       replace BK330 := nk BK330 hb
       replace HB := bs hb
       (try clear hb)
       (try clear ho0)
       obtain ⟨Ao25, co25, eo25⟩ := Kd.R_slice HO338.out
       (first | subst eo25 | (injection eo25 with f1_ f2_ f3_; have f4_ := f1_.symm; have f5_ := f3_.symm; clear f1_ f2_ f3_; subst f4_; subst f5_))
       refine hK.out _ _ ⟨ec BK330, ec BK330⟩ (fun hHeld => ?_)
       clear hK K
       refine nm (some 35) ?_
       refine pu 9 (some 36) (tb 11 1023) ?_
       refine pu 10 (some 7) (tb 11 2047) ?_
       refine done_ (done_of HT_.out (by kernel_rfl)) ?_
       try go_wp2
       go_roundg k2
       case measure => have := HJ1.out; have := HK2.out; omega
       case rel => exact ⟨(x24_2), ((t336.length : Int)), (wrap64 (x24_2 + 1)), (rs), (rs), (rs), H', ⟨by have := HJ1.out; have := HK2.out; omega⟩, ⟨pk BK330⟩, ⟨bw⟩⟩
      rw [if_neg c21] at H
      have c21b0 := decide_eq_false c21
      clear c21
      have H' := Aside0.mk H
      clear H
      try go_wp2
      replace BK330 := Aside0.mk (blk_drew BK330.out)
      replace HB := Aside0.mk (below_drew1 HB.out)
      have q27 : ((wrap64 (x24_2 + 1)) : Int) ≤ ((l0_1.length : Int) : Int) := of_decide_eq_true asm
      obtain ⟨i027, hi027, _, hsz27, _⟩ := info_parts info42
      have hroom27 : l0_1.length ≤ c0_1 := HC0_1.out
      have hC27 : Kd.C k42 _ A0_1 l0_1.length l0_1 := HR0_1.out
      have ql27 : (x24_2 : Int) ≤ ((wrap64 (x24_2 + 1)) : Int) := of_decide_eq_true asm
      have q027 : (0 : Int) ≤ (x24_2 : Int) := of_decide_eq_true asm
      have hcut27 := cut_mid (P := Tryz.prog) 22 42 .i64 .i64 Tryz.underlying22 hi027 4 hsz27 A0_1 l0_1.length c0_1 x24_2 (wrap64 (x24_2 + 1)) q027 ql27 q27 hroom27
      have hr27 := Kd.C_mid (lo := (x24_2 : Int).toNat) (hi := ((wrap64 (x24_2 + 1)) : Int).toNat) (c := c0_1) hC27 (by omega) (by omega) hroom27
      obtain ⟨A27, hA27⟩ : ∃ A1, A1 = (if c0_1 = (x24_2 : Int).toNat then A0_1 else (A0_1 : Option Addr).map (·.add ((x24_2 : Int).toNat * 4))) := ⟨_, rfl⟩
      obtain ⟨c27, hc27⟩ : ∃ c1, c1 = c0_1 - (x24_2 : Int).toNat := ⟨_, rfl⟩
      have hy27 : y332.length = ((wrap64 (x24_2 + 1)) : Int).toNat - (x24_2 : Int).toNat := (by rw [Ny332.out, List.length_drop, List.length_take] <;> omega)
      rw [show ((l0_1).take ((wrap64 (x24_2 + 1)) : Int).toNat).drop (x24_2 : Int).toNat = y332 from Ny332.out.symm] at hr27
      replace hr27 : Kd.C k42 _ A27 y332.length y332 := (by rw [hA27]; exact hr27)
      rw [← hy27, ← hA27, ← hc27] at hcut27
      have HR335 := Aside0.mk hr27
      have HC335 := Aside0.mk (show y332.length ≤ c27 from by rw [hy27, hc27]; exact Nat.sub_le_sub_right (Nat.le_trans (by omega) hroom27) _)
      clear hr27 hC27 hroom27 hi027 hsz27 hc27
      have KY27 := Aside0.mk hy27
      have KA27 := Aside0.mk hA27
      clear hy27 hA27
      replace q27 := eq_true q27
      refine start_ (n := 11) (S := fun w' => w'.cell? ⟨gb330, 0, none⟩ = some (.int .i64 a0_0) ∧ w'.cell? ⟨gb330, 1, none⟩ = some (.slice A0_1 l0_1.length c0_1)) (ds := []) (tb 11 0) (by kernel_rfl) rfl rfl ⟨ec BK330, ec BK330⟩ (fun hHeld => ?_); refine with_tabW impl_BestClue.tab7 impl_BestClue.bits7 (fun HT_ HW_ => ?_)
      generalize wr.drew = w26 at BK330 HB HR335 hHeld ⊢
      refine pu 0 (some 27) (tb 11 1) ?_
      refine pu 2 (some 29) (tb 11 5) ?_
      refine pu 4 (some 31) (tb 11 21) ?_
      refine pu 5 (some 32) (tb 11 53) ?_
      refine pu 6 (some 33) (tb 11 117) ?_
      refine tk 1 (some 28) (tb 11 119) hHeld ?_
      refine tk 3 (some 30) (tb 11 127) hHeld ?_
      refine pu 7 (some 34) (tb 11 255) ?_
      refine one_ (i := 8) (N := some 35) (tb 11 511) rfl rfl (one_of HT_.out (by kernel_rfl)) (by decide) (fun K hK => ?_)
      refine go1 Tryz.func34 #[.int .i64 a0_0, .slice A27 y332.length c27] ?_
      with_reducible refine (impl_solutions.calls k2 a0_0 _ _ y332 t336 _ ?side1 ?side2 ?side3 A20.out).mono ?_
      (case side1 => exact Dr.mm HMM)
      (case side2 => exact cb HR335)
      (case side3 => exact HC335.out)
      rintro e w28 ⟨v337, rfl, ho0, hb⟩
      refine ⟨_, rfl, ?_⟩
      have HO338 := Aside0.mk (Kd.R_lower ho0 (below_size bw))
      replace BK330 := nk BK330 hb
      replace HB := bs hb
      (try clear hb)
      (try clear ho0)
      obtain ⟨Ao29, co29, eo29⟩ := Kd.R_slice HO338.out
      (first | subst eo29 | (injection eo29 with f1_ f2_ f3_; have f4_ := f1_.symm; have f5_ := f3_.symm; clear f1_ f2_ f3_; subst f4_; subst f5_))
      refine hK.out _ _ ⟨ec BK330, ec BK330⟩ (fun hHeld => ?_)
      clear hK K
      refine nm (some 35) ?_
      refine pu 9 (some 36) (tb 11 1023) ?_
      refine pu 10 (some 7) (tb 11 2047) ?_
      refine done_ (done_of HT_.out (by kernel_rfl)) ?_
      try go_wp2
      go_roundg k2
      case measure => have := HJ1.out; have := HK2.out; omega
      case rel => exact ⟨(x4_2), (x5_2), (wrap64 (x24_2 + 1)), (rs), (rs), (rs), H', ⟨by have := HJ1.out; have := HK2.out; omega⟩, ⟨pk BK330⟩, ⟨bw⟩⟩
     rw [if_neg c16] at H
     have c16b0 := decide_eq_false c16
     clear c16
     simp only [Option.some.injEq, Prod.mk.injEq] at H
     obtain ⟨rfl, rfl⟩ := H
     go_wp2
     go_ret2
     exact ⟨by first | rfl | (simp [errW_none, errW_some] <;> rfl) | (simp only [← hji13]; first | rfl | (simp [errW_none, errW_some] <;> rfl)) | (simp [*, errW_none, errW_some] <;> rfl), bw⟩
end Go.Proofs.YtfaakdokcldnkaaGreatDoor.PFnRowsGuessedOfAll
