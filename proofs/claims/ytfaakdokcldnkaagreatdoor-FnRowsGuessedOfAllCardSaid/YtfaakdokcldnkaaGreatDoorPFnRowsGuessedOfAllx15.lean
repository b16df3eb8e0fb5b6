-- Laid by xprint, a program of this session that runs over the kit's print.
import Derived.Test.YtfaakdokcldnkaaGreatDoorPFnRowsGuessedOfAllx14
namespace Go.Proofs.YtfaakdokcldnkaaGreatDoor.PFnRowsGuessedOfAll
open Go.RowKit Go.Proofs.YtfaakdokcldnkaaGreatDoorW.PrintWords Go.Proofs.YtfaakdokcldnkaaGreatDoorW.PrintLast Go.Proofs.YtfaakdokcldnkaaGreatDoorW.PrintMore Go.Proofs.YtfaakdokcldnkaaGreatDoor.Sq
attribute [local go_sem] max2_int min2_int max_two min_two max_three min_three max_four min_four   -- for this text's walks alone
set_option linter.unusedVariables false
set_option linter.unusedSimpArgs false

/-! ### spec_l1Num: function 63 -/
def spec_l1Num.f : Nat → Int → Option (ByteArray)
  | 0, _ => none
  | k + 1, a0 => if a0 < 10 then (some (strOfNums (([(wrap64 (48 + a0)) % 256] : List Int)))) else ((spec_l1Num.f k (wrap64 (Int.tdiv a0 10))).bind fun t369 => ((some (([(wrap64 (48 + (Int.tmod a0 10))) % 256] : List Int) : List Int)).bind fun y370 => (if t369.size + (strOfNums y370).size ≤ 9223372036854775807 then (some (t369 ++ (strOfNums y370))) else (none))))
theorem spec_l1Num.mono_l : ∀ k, (∀ y0, LeO (spec_l1Num.f k y0) (spec_l1Num.f (k + 1) y0))
  | 0 => fun _ r h => by simp [spec_l1Num.f] at h
  | k + 1 => by
    have ih0 := spec_l1Num.mono_l k
    · intro y0
      unfold spec_l1Num.f
      repeat' first
      | (with_reducible exact ih0 _)
      | (with_reducible exact LeO.refl _)
      | (with_reducible exact LeO.none _)
      | (with_reducible refine LeO.ite ?_ ?_)
      | (with_reducible refine LeO.bind ?_ (fun _ => ?_))
      | exact ih0 _
      | exact LeO.none _
      | refine LeO.ite ?_ ?_
      | refine LeO.bind ?_ (fun _ => ?_)
theorem spec_l1Num.mono : ∀ a0 k, LeO (spec_l1Num.f k a0) (spec_l1Num.f (k + 1) a0) := by
  intro a0 k
  have ih0 := spec_l1Num.mono_l k
  exact ih0 a0
def spec_l1Num.T3 : Bool × List (List Nat × List Nat) := (true, [([], []), ([0], [0]), ([1], [1]), ([], []), ([3], [3]), ([4], [4]), ([5], [5]), ([6], [6]), ([7], [7]), ([2, 8], [2, 8]), ([9, 2, 0, 1, 2, 3, 4, 5, 6, 7, 8, 9], [9])])
def spec_l1Num.B3 : List Nat := [0, 1, 3, 0, 8, 24, 56, 120, 248, 511, 1023]
theorem spec_l1Num.tab3 : rtab .any (opsOf Tryz.f63 3) = spec_l1Num.T3 := by kernel_rfl
theorem spec_l1Num.bits3 : waitsOk spec_l1Num.T3.2 spec_l1Num.B3 = true := by kernel_rfl
set_option maxHeartbeats 8000000 in
set_option maxRecDepth 100000 in
theorem spec_l1Num.calls (k : Nat) : ∀ (a0 : Int) (r : ByteArray) (w : World) (h : spec_l1Num.f k a0 = some r),
  Calls Tryz.prog 63 #[.int .i64 a0] w fun e w' => e = .returned (.string r) ∧ Below w.heap.size w w' := by
 induction k using Nat.strongRecOn with
 | _ k ih =>
 intro a0 r w h
 cases k with
 | zero => exact absurd h (by simp [spec_l1Num.f])
 | succ k =>
 simp only [spec_l1Num.f] at h
 have HB := Aside0.mk (Below.refl w.heap.size w)
 have H := h
 clear h
 by_cases c2 : a0 < 10
 ·rw [if_pos c2] at H
  have c2b0 := decide_eq_true c2
  clear c2
  obtain ⟨y366, hy366⟩ : ∃ y_ : List Int, y_ = (([(wrap64 (48 + a0)) % 256] : List Int)) := ⟨_, rfl⟩
  replace H : (some (strOfNums y366)) = some r := by first | (rw [hy366]; with_reducible exact H) | (have H2_ := (Option.bind_some _ _).symm.trans H; rw [hy366]; with_reducible exact H2_) | (have H2_ := (Option.bind_some _ _).symm.trans H; with_reducible exact H2_) | with_reducible exact H | (rw [hy366]; exact H) | exact H
  have Ny366 := Aside0.mk hy366
  clear hy366
  obtain rfl := Option.some.inj H
  go_enter Tryz.func63, Tryz.ntmps63
  go_wp2_with (first | ((with_reducible refine gd 8 ?_); refine Kd.R_lit (Kd.int .u8) _ 5 ?hg (N := 8) ?hd (xs := ([(wrap64 (48 + a0)) % 256] : List Int)) (inner := [.int .u8 ((wrap64 (48 + a0)) % 256)]) (ok := fun _ => True) (okp := fun _ => True) ?hr ?hp (fun _ hk => hk) trivial (Below.refl _ _) (Nat.le_refl _) (by simp) ?_; (case hd => rfl); (case hg => rfl); (case hr => first | (go_simp; done) | (go_simp; rfl)); (case hp => exact (Reps.one (show Kd.M (Kd.int .u8) _ _ _ ((wrap64 (48 + a0)) % 256) [.int .u8 ((wrap64 (48 + a0)) % 256)] from rfl) (Reps.none _ _))); intro v367 w3 ho4 hb hg_ hnew_; clear hg_ hnew_; (first | rw [← Ny366.out] at ho4 | (simp only [Int.reduceToNat] at ho4; rw [← Ny366.out] at ho4)); have HO368 := Aside0.mk (Kd.R_lower ho4 (below_size bw)); replace HB := bs hb; clear hb ho4; have hcv5 := own_string (P := Tryz.prog) Tryz.underlying51 Tryz.underlying5 Tryz.underlying9 (Kd.own_of_R HO368.out)))
  go_ret
  exact ⟨rs, bw⟩
 rw [if_neg c2] at H
 have c2b0 := decide_eq_false c2
 clear c2
 obtain ⟨t369, A6, H⟩ := ob H
 (try dsimp only at H)
 obtain ⟨y370, hy370⟩ : ∃ y_ : List Int, y_ = (([(wrap64 (48 + (Int.tmod a0 10))) % 256] : List Int)) := ⟨_, rfl⟩
 replace H : (if t369.size + (strOfNums y370).size ≤ 9223372036854775807 then (some (t369 ++ (strOfNums y370))) else (none)) = some r := by first | (rw [hy370]; with_reducible exact H) | (have H2_ := (Option.bind_some _ _).symm.trans H; rw [hy370]; with_reducible exact H2_) | (have H2_ := (Option.bind_some _ _).symm.trans H; with_reducible exact H2_) | with_reducible exact H | (rw [hy370]; exact H) | exact H
 have Ny370 := Aside0.mk hy370
 clear hy370
 obtain ⟨c7, H⟩ := oi H
 have c7b0 := eq_true c7
 have c7b1 := decide_eq_true c7
 try have c7b2 : (9223372036854775807 < t369.size + (strOfNums y370).size) = False := eq_false (Nat.not_lt.2 c7)
 obtain rfl := Option.some.inj H
 go_enter Tryz.func63, Tryz.ntmps63
 try go_wp2
 replace HB := Aside0.mk (below_drew1 HB.out)
 refine start_ (n := 11) (S := fun w' => True) (ds := []) (tb 11 0) (by kernel_rfl) rfl rfl trivial (fun hHeld => ?_); refine with_tabW spec_l1Num.tab3 spec_l1Num.bits3 (fun HT_ HW_ => ?_)
 generalize w.drew = w8 at HB hHeld ⊢
 refine pu 0 (some 10) (tb 11 1) ?_
 refine pu 1 (some 11) (tb 11 3) ?_
 refine pu 3 (some 13) (tb 11 11) ?_
 refine pu 4 (some 14) (tb 11 27) ?_
 refine pu 5 (some 15) (tb 11 59) ?_
 refine pu 6 (some 16) (tb 11 123) ?_
 refine join_ (σ := Value) 2 (tb 11 511) (fun s_ => [(12, .string t369), (17, s_), (18, .string (strOfNums y370))]) (fun s_ w' => (Kd.R (Kd.int .u8) 5 w' w.heap.size (fun _ => True) s_ y370) ∧ (Below w.heap.size w w')) ?_ ?_
 rotate_left
 ·intro hCont
  refine two_ (i := 2) (j := 7) (Ni := some 12) (Nj := some 17) (tb 11 127) (tb 11 251) rfl rfl rfl rfl (two_of HT_.out (by kernel_rfl)) (by decide) (by decide) (fun K hK => ?_) (fun K hK => ?_)
  ·skip
   refine go1 Tryz.func63 #[.int .i64 (wrap64 (Int.tdiv a0 10))] ?_
   with_reducible refine (ih k (by omega) (wrap64 (Int.tdiv a0 10)) t369 _ A6.out).mono ?_
   rintro e w9 ⟨rfl, hb⟩
   refine ⟨_, rfl, ?_⟩
   replace HB := bs hb
   (try clear hb)
   refine hK.out _ _ trivial (fun hHeld => ?_)
   clear hK K
   refine nm (some 12) ?_
   refine one_ (i := 7) (N := some 17) (tb 11 255) rfl rfl (one_of HT_.out (by kernel_rfl)) (by decide) (fun K hK => ?_)
   refine Kd.R_lit_step (Kd.int .u8) _ 5 ?hg (N := 17) ?hd (xs := ([(wrap64 (48 + (Int.tmod a0 10))) % 256] : List Int)) (inner := [.int .u8 ((wrap64 (48 + (Int.tmod a0 10))) % 256)]) (ok := fun _ => True) (okp := fun _ => True) ?hr ?hp (fun _ hk => hk) trivial (Below.refl _ _) (Nat.le_refl _) (by simp) ?_; (case hd => rfl); (case hg => rfl); (case hr => first | (go_simp; done) | (go_simp; rfl)); (case hp => exact (Reps.one (show Kd.M (Kd.int .u8) _ _ _ ((wrap64 (48 + (Int.tmod a0 10))) % 256) [.int .u8 ((wrap64 (48 + (Int.tmod a0 10))) % 256)] from rfl) (Reps.none _ _)))
   intro v371 w10 ho11 hb hg_ hnew_
   clear hg_ hnew_
   (first | rw [← Ny370.out] at ho11 | (simp only [Int.reduceToNat] at ho11; rw [← Ny370.out] at ho11))
   have HO372 := Aside0.mk (Kd.R_lower ho11 (below_size bw))
   replace HB := bs hb
   clear hb ho11
   refine hK.out _ _ trivial (fun hHeld => ?_)
   clear hK K
   refine nm (some 17) ?_
   refine one_ (i := 8) (N := some 18) (tb 11 511) rfl rfl (one_of HT_.out (by kernel_rfl)) (by decide) (fun K hK => ?_)
   have hcv12 := own_string (P := Tryz.prog) Tryz.underlying51 Tryz.underlying5 Tryz.underlying9 (Kd.own_of_R HO372.out)
   refine value_ (w1 := ?_) (v := ?_) (by rfl) rfl ?_ ?_
   rotate_left 2
   ·go_simp
    constructor
    ·rfl
    rfl
   clear hcv12
   refine hK.out _ _ trivial (fun hHeld => ?_)
   clear hK K
   refine nm (some 18) ?_
   exact norm_ (by simp only [putAll, Act.put, List.setIfInBounds_toArray, List.set_cons_zero, List.set_cons_succ]) (hCont (v371) _ ⟨(pr HO372), bw⟩)
  ·skip
   refine Kd.R_lit_step (Kd.int .u8) _ 5 ?hg (N := 17) ?hd (xs := ([(wrap64 (48 + (Int.tmod a0 10))) % 256] : List Int)) (inner := [.int .u8 ((wrap64 (48 + (Int.tmod a0 10))) % 256)]) (ok := fun _ => True) (okp := fun _ => True) ?hr ?hp (fun _ hk => hk) trivial (Below.refl _ _) (Nat.le_refl _) (by simp) ?_; (case hd => rfl); (case hg => rfl); (case hr => first | (go_simp; done) | (go_simp; rfl)); (case hp => exact (Reps.one (show Kd.M (Kd.int .u8) _ _ _ ((wrap64 (48 + (Int.tmod a0 10))) % 256) [.int .u8 ((wrap64 (48 + (Int.tmod a0 10))) % 256)] from rfl) (Reps.none _ _)))
   intro v371 w9 ho10 hb hg_ hnew_
   clear hg_ hnew_
   (first | rw [← Ny370.out] at ho10 | (simp only [Int.reduceToNat] at ho10; rw [← Ny370.out] at ho10))
   have HO372 := Aside0.mk (Kd.R_lower ho10 (below_size bw))
   replace HB := bs hb
   clear hb ho10
   refine hK.out _ _ trivial (fun hHeld => ?_)
   clear hK K
   refine nm (some 17) ?_
   refine two_ (i := 2) (j := 8) (Ni := some 12) (Nj := some 18) (tb 11 255) (tb 11 507) rfl rfl rfl rfl (two_of HT_.out (by kernel_rfl)) (by decide) (by decide) (fun K hK => ?_) (fun K hK => ?_)
   ·skip
    refine go1 Tryz.func63 #[.int .i64 (wrap64 (Int.tdiv a0 10))] ?_
    with_reducible refine (ih k (by omega) (wrap64 (Int.tdiv a0 10)) t369 _ A6.out).mono ?_
    rintro e w11 ⟨rfl, hb⟩
    refine ⟨_, rfl, ?_⟩
    replace HO372 := rl HO372 hb
    replace HB := bs hb
    (try clear hb)
    refine hK.out _ _ trivial (fun hHeld => ?_)
    clear hK K
    refine nm (some 12) ?_
    refine one_ (i := 8) (N := some 18) (tb 11 511) rfl rfl (one_of HT_.out (by kernel_rfl)) (by decide) (fun K hK => ?_)
    have hcv12 := own_string (P := Tryz.prog) Tryz.underlying51 Tryz.underlying5 Tryz.underlying9 (Kd.own_of_R HO372.out)
    refine value_ (w1 := ?_) (v := ?_) (by rfl) rfl ?_ ?_
    rotate_left 2
    ·go_simp
     constructor
     ·rfl
     rfl
    clear hcv12
    refine hK.out _ _ trivial (fun hHeld => ?_)
    clear hK K
    refine nm (some 18) ?_
    exact norm_ (by simp only [putAll, Act.put, List.setIfInBounds_toArray, List.set_cons_zero, List.set_cons_succ]) (hCont (v371) _ ⟨(pr HO372), bw⟩)
   ·skip
    have hcv11 := own_string (P := Tryz.prog) Tryz.underlying51 Tryz.underlying5 Tryz.underlying9 (Kd.own_of_R HO372.out)
    refine value_ (w1 := ?_) (v := ?_) (by rfl) rfl ?_ ?_
    rotate_left 2
    ·go_simp
     constructor
     ·rfl
     rfl
    clear hcv11
    refine hK.out _ _ trivial (fun hHeld => ?_)
    clear hK K
    refine nm (some 18) ?_
    refine one_ (i := 2) (N := some 12) (tb 11 511) rfl rfl (one_of HT_.out (by kernel_rfl)) (by decide) (fun K hK => ?_)
    refine go1 Tryz.func63 #[.int .i64 (wrap64 (Int.tdiv a0 10))] ?_
    with_reducible refine (ih k (by omega) (wrap64 (Int.tdiv a0 10)) t369 _ A6.out).mono ?_
    rintro e w12 ⟨rfl, hb⟩
    refine ⟨_, rfl, ?_⟩
    replace HO372 := rl HO372 hb
    replace HB := bs hb
    (try clear hb)
    refine hK.out _ _ trivial (fun hHeld => ?_)
    clear hK K
    refine nm (some 12) ?_
    exact norm_ (by simp only [putAll, Act.put, List.setIfInBounds_toArray, List.set_cons_zero, List.set_cons_succ]) (hCont (v371) _ ⟨(pr HO372), bw⟩)
 rintro v371 w13 ⟨h0_, h1_⟩
 have n0_ : Aside0 (Kd.R (Kd.int .u8) 5 w13 w.heap.size (fun _ => True) v371 y370) := ⟨h0_⟩
 have n1_ : Aside0 (Below w.heap.size w w13) := ⟨h1_⟩
 clear HB
 clear h0_ h1_
 have HO372 := n0_
 have HB := n1_
 clear n0_ n1_
 have hHeld := trivial
 refine norm_ (a' := ?_) ?_ ?_
 rotate_left
 ·simp only [putAll, Act.put, List.setIfInBounds_toArray, List.set_cons_zero, List.set_cons_succ]
  rfl
 refine pu 9 (some 19) (tb 11 1023) ?_
 refine pu 10 (some 2) (tb 11 2047) ?_
 refine done_ (done_of HT_.out (by kernel_rfl)) ?_
 try go_wp2
 go_ret
 exact ⟨rs, bw⟩
/-! ### spec_pzText: function 41 -/
mutual
def spec_pzText.l0 : Nat → ByteArray → List (S42) → Int → Int → Option (ByteArray)
  | 0, _, _, _, _ => none
  | k + 1, x3, x11, x12, x13 => if x13 < x12 then (if 0 ≤ x13 then (if x13 < (x11.length : Int) then (if x13 > 0 then (if x3.size + 1 ≤ 9223372036854775807 then (spec_pzText.j1 k (x3 ++ (⟨#[44]⟩ : ByteArray)) x11 x12 x13 ((rd_T42 x11 x13).f0) ((rd_T42 x11 x13).f1) ((rd_T42 x11 x13).f2) ((rd_T42 x11 x13).f3)) else (none)) else (spec_pzText.j1 k x3 x11 x12 x13 ((rd_T42 x11 x13).f0) ((rd_T42 x11 x13).f1) ((rd_T42 x11 x13).f2) ((rd_T42 x11 x13).f3))) else (none)) else (none)) else (some x3)
def spec_pzText.j1 : Nat → ByteArray → List (S42) → Int → Int → Int → Int → Int → Int → Option (ByteArray)
  | 0, _, _, _, _, _, _, _, _ => none
  | k + 1, x3, x11, x12, x13, x377000, x377001, x377002, x377003 => (spec_l1Num.f k x377000).bind fun t377 => (if t377.size + 1 ≤ 9223372036854775807 then ((spec_l1Num.f k x377001).bind fun t378 => (if (t377 ++ (⟨#[46]⟩ : ByteArray)).size + t378.size ≤ 9223372036854775807 then (if ((t377 ++ (⟨#[46]⟩ : ByteArray)) ++ t378).size + 1 ≤ 9223372036854775807 then ((spec_l1Num.f k x377002).bind fun t379 => (if (((t377 ++ (⟨#[46]⟩ : ByteArray)) ++ t378) ++ (⟨#[46]⟩ : ByteArray)).size + t379.size ≤ 9223372036854775807 then (if ((((t377 ++ (⟨#[46]⟩ : ByteArray)) ++ t378) ++ (⟨#[46]⟩ : ByteArray)) ++ t379).size + 1 ≤ 9223372036854775807 then ((spec_l1Num.f k x377003).bind fun t380 => (if (((((t377 ++ (⟨#[46]⟩ : ByteArray)) ++ t378) ++ (⟨#[46]⟩ : ByteArray)) ++ t379) ++ (⟨#[46]⟩ : ByteArray)).size + t380.size ≤ 9223372036854775807 then (if x3.size + ((((((t377 ++ (⟨#[46]⟩ : ByteArray)) ++ t378) ++ (⟨#[46]⟩ : ByteArray)) ++ t379) ++ (⟨#[46]⟩ : ByteArray)) ++ t380).size ≤ 9223372036854775807 then (spec_pzText.l0 k (x3 ++ ((((((t377 ++ (⟨#[46]⟩ : ByteArray)) ++ t378) ++ (⟨#[46]⟩ : ByteArray)) ++ t379) ++ (⟨#[46]⟩ : ByteArray)) ++ t380)) x11 x12 (wrap64 (x13 + 1))) else (none)) else (none))) else (none)) else (none))) else (none)) else (none))) else (none))
end
def spec_pzText.f (k : Nat) (a0_0 : Int) (l0_1 : List (S42)) : Option (ByteArray) := (spec_l1Num.f k a0_0).bind fun t374 => (if t374.size + 1 ≤ 9223372036854775807 then (spec_pzText.l0 k (t374 ++ (⟨#[58]⟩ : ByteArray)) l0_1 (l0_1.length : Int) 0) else (none))
theorem spec_pzText.mono_l : ∀ k, (∀ y0 y1 y2 y3, LeO (spec_pzText.l0 k y0 y1 y2 y3) (spec_pzText.l0 (k + 1) y0 y1 y2 y3)) ∧ (∀ y0 y1 y2 y3 y4 y5 y6 y7, LeO (spec_pzText.j1 k y0 y1 y2 y3 y4 y5 y6 y7) (spec_pzText.j1 (k + 1) y0 y1 y2 y3 y4 y5 y6 y7))
  | 0 => ⟨fun _ _ _ _ r h => by simp [spec_pzText.l0] at h, fun _ _ _ _ _ _ _ _ r h => by simp [spec_pzText.j1] at h⟩
  | k + 1 => by
    obtain ⟨ih0, ih1⟩ := spec_pzText.mono_l k
    refine ⟨?q0, ?q1⟩
    case' q0 => (intros; unfold spec_pzText.l0)
    case' q1 => (intros; unfold spec_pzText.j1)
    all_goals repeat' first
     | (with_reducible exact ih0 _ _ _ _)
     | (with_reducible exact ih1 _ _ _ _ _ _ _ _)
     | (with_reducible exact spec_l1Num.mono _ _)
     | (with_reducible exact LeO.refl _)
     | (with_reducible exact LeO.none _)
     | (with_reducible refine LeO.ite ?_ ?_)
     | (with_reducible refine LeO.bind ?_ (fun _ => ?_))
     | exact ih0 _ _ _ _
     | exact ih1 _ _ _ _ _ _ _ _
     | exact spec_l1Num.mono _ _
     | exact LeO.none _
     | refine LeO.ite ?_ ?_
     | refine LeO.bind ?_ (fun _ => ?_)
theorem spec_pzText.mono : ∀ a0 a1 k, LeO (spec_pzText.f k a0 a1) (spec_pzText.f (k + 1) a0 a1) := by
  intro a0 a1 k
  obtain ⟨ih0, ih1⟩ := spec_pzText.mono_l k
  unfold spec_pzText.f
  repeat' first
      | (with_reducible exact ih0 _ _ _ _)
      | (with_reducible exact ih1 _ _ _ _ _ _ _ _)
      | (with_reducible exact spec_l1Num.mono _ _)
      | (with_reducible exact LeO.refl _)
      | (with_reducible exact LeO.none _)
      | (with_reducible refine LeO.ite ?_ ?_)
      | (with_reducible refine LeO.bind ?_ (fun _ => ?_))
      | exact ih0 _ _ _ _
      | exact ih1 _ _ _ _ _ _ _ _
      | exact spec_l1Num.mono _ _
      | exact LeO.none _
      | refine LeO.ite ?_ ?_
      | refine LeO.bind ?_ (fun _ => ?_)
def spec_pzText.T7 : Bool × List (List Nat × List Nat) := (true, [([], []), ([], []), ([1], [1]), ([2], [2]), ([3], [3]), ([], []), ([5], [5]), ([6, 3], [6]), ([4, 7], [4, 7]), ([8], [8]), ([], []), ([10], [10]), ([11, 7], [11]), ([9, 12], [9, 12]), ([13], [13]), ([], []), ([15], [15]), ([16, 12], [16]), ([14, 17], [14, 17]), ([0, 18], [0, 18]), ([19, 17, 0, 1, 2, 3, 4, 5, 6, 7, 8, 9, 10, 11, 12, 13, 14, 15, 16, 17, 18, 19], [0, 19])])
def spec_pzText.B7 : List Nat := [0, 0, 2, 6, 14, 0, 32, 110, 254, 510, 0, 1024, 3310, 8190, 16382, 0, 32768, 105710, 262142, 524287, 1048575]
theorem spec_pzText.tab7 : rtab .any (opsOf Tryz.f41 7) = spec_pzText.T7 := by kernel_rfl
theorem spec_pzText.bits7 : waitsOk spec_pzText.T7.2 spec_pzText.B7 = true := by kernel_rfl
set_option maxHeartbeats 8000000 in
set_option maxRecDepth 100000 in
theorem spec_pzText.calls (k : Nat) (a0_0 : Int) (A0_1 : Option Addr) (c0_1 : Nat) (l0_1 : List (S42)) (r : ByteArray) (w : World) (hr0_1 : Kd.C k42 w A0_1 l0_1.length l0_1) (hc0_1 : l0_1.length ≤ c0_1) (h : spec_pzText.f k a0_0 l0_1 = some r) :
  Calls Tryz.prog 41 #[.agg #[.int .i64 a0_0, .slice A0_1 l0_1.length c0_1]] w fun e w' => e = .returned (.string r) ∧ Below w.heap.size w w' := by
 have hu24 := Tryz.underlying24
 have hu42 := Tryz.underlying42
 have HR0_1 := Aside0.mk hr0_1
 have HC0_1 := Aside0.mk hc0_1
 clear hr0_1 hc0_1
 have HB := Aside0.mk (Below.refl w.heap.size w)
 unfold spec_pzText.f at h
 have H := h
 clear h
 obtain ⟨t374, A2, H⟩ := ob H
 (try dsimp only at H)
 obtain ⟨c3, H⟩ := oi H
 have c3b0 := eq_true c3
 have c3b1 := decide_eq_true c3
 try have c3b2 : (9223372036854775807 < t374.size + 1) = False := eq_false (Nat.not_lt.2 c3)
 have H' := Aside0.mk H
 clear H
 go_enter Tryz.func41, Tryz.ntmps41
 go_wp2_with (first | ((with_reducible refine gd 1 ?_); refine bx 1 24 #[.int .i64 a0_0, .slice A0_1 l0_1.length c0_1] ?_; intro gb373 hg w4 hbox hb; have BK373 := hbox; have GW373 := gs hg; have GE373 := gs hg; replace HB := bs hb; clear hb hbox hg; obtain ⟨hcz5_0, hcz5_1, hfz5_0, hfz5_1⟩ := z2 BK373) | ((with_reducible refine gc 63 ?_); refine gl (some 8) Tryz.func63 #[.int .i64 a0_0] ?_; (with_reducible refine (spec_l1Num.calls k a0_0 t374 _ A2.out).mono ?_); rintro e w6 ⟨rfl, hb⟩; refine ⟨_, rfl, ?_⟩; replace BK373 := nk BK373 hb; replace HB := bs hb; (try clear hb); obtain ⟨hcz7_0, hcz7_1, hfz7_0, hfz7_1⟩ := z2 BK373))
 go_loopg [3, 13] k (fun kq v3 v13 w' => ∃ (x3_1 : ByteArray) (x13_1 : Int), v3 = .string x3_1 ∧ v13 = .int .i64 x13_1 ∧ Aside0 (spec_pzText.l0 kq x3_1 l0_1 (l0_1.length : Int) x13_1 = some r) ∧ Aside0 (kq ≤ k) ∧ Aside0 (Below w.heap.size w w'))
 case atStart => exact ⟨(t374 ++ (⟨#[58]⟩ : ByteArray)), (0), (rs), (rs), H', ⟨Nat.le_refl _⟩, ⟨bw⟩⟩
 case round =>
  clear H'
  try clear p2
  try clear c3
  try clear c3b0
  try clear c3b1
  try clear c3b2
  try clear c4
  try clear c6
  try clear hcz5_0
  try clear hcz5_1
  try clear hcz7_0
  try clear hcz7_1
  try clear hfz5_0
  try clear hfz5_1
  try clear hfz7_0
  try clear hfz7_1
  obtain ⟨x3_1, x13_1, rfl, rfl, HA, HK1, HB⟩ := hrel
  cases gk with
  | zero => exact absurd HA.out (by simp [spec_pzText.l0])
  | succ k1 =>
   have H := HA.out
   clear HA
   simp only [spec_pzText.l0] at H
   by_cases c8 : x13_1 < (l0_1.length : Int)
   ·rw [if_pos c8] at H
    have c8b0 := decide_eq_true c8
    clear c8
    obtain ⟨c9, H⟩ := oi H
    have c9b0 := decide_eq_true c9
    clear c9
    obtain ⟨c10, H⟩ := oi H
    have c10b0 := decide_eq_true c10
    clear c10
    have HC11 := Aside0.mk H
    clear H
    have p375 : 0 ≤ (x13_1 : Int) := of_decide_eq_true asm
    have q375 : x13_1 < (l0_1.length : Int) := of_decide_eq_true asm
    obtain ⟨ad375, e375, hx375_0, hx375_1, hx375_2, hx375_3⟩ := at_T42 HR0_1.out x13_1 p375 q375
    cases e375
    replace hx375_0 := (HB.out.cell (World.block_lt_of_cell? w _ hx375_0)).trans hx375_0
    replace hx375_1 := (HB.out.cell (World.block_lt_of_cell? w _ hx375_1)).trans hx375_1
    replace hx375_2 := (HB.out.cell (World.block_lt_of_cell? w _ hx375_2)).trans hx375_2
    replace hx375_3 := (HB.out.cell (World.block_lt_of_cell? w _ hx375_3)).trans hx375_3
    replace p375 := eq_true p375
    replace q375 := eq_true q375
    go_upto_if 19 with (first | ((with_reducible refine gd 5 ?_); refine bx 5 42 #[.int .i64 0, .int .i64 0, .int .i64 0, .int .i64 0] ?_; intro gb376 hg w12 hbox hb; have BK376 := hbox; have GW376 := gs hg; have GE376 := gs hg; replace HB := bs hb; clear hb hbox hg; obtain ⟨hcz13_0, hcz13_1, hcz13_2, hcz13_3, hfz13_0, hfz13_1, hfz13_2, hfz13_3⟩ := z4 BK376))
    (try simp only [Act.put, List.setIfInBounds_toArray, List.set_cons_zero, List.set_cons_succ])
    go_cut [3] (fun v3 wc => ∃ (kq : Nat) (x3_10 : ByteArray), v3 = .string x3_10 ∧ Aside0 (spec_pzText.j1 kq x3_10 l0_1 (l0_1.length : Int) x13_1 ((rd_T42 l0_1 x13_1).f0) ((rd_T42 l0_1 x13_1).f1) ((rd_T42 l0_1 x13_1).f2) ((rd_T42 l0_1 x13_1).f3) = some r) ∧ Aside0 (kq ≤ k1) ∧ Aside0 (wc.heap[gb376]? = some (.cells #[.int .i64 ((rd_T42 l0_1 x13_1).f0), .int .i64 ((rd_T42 l0_1 x13_1).f1), .int .i64 ((rd_T42 l0_1 x13_1).f2), .int .i64 ((rd_T42 l0_1 x13_1).f3)] 42 (0, 0))) ∧ Aside0 (Below w.heap.size w wc))
    case first =>
     have H := HC11.out
     clear HC11
     by_cases c14 : x13_1 > 0
     ·rw [if_pos c14] at H
      have c14b0 := decide_eq_true c14
      clear c14
      (first | rw [c14b0] | rw [@decide_eq_true _ _ (of_decide_eq_true c14b1)] | rw [@decide_eq_false _ _ (of_decide_eq_false c14b1)] | (simp only [i64_w, i32_w]; rw [c14b0]) | skip)
      obtain ⟨c15, H⟩ := oi H
      have c15b0 := eq_true c15
      have c15b1 := decide_eq_true c15
      try have c15b2 : (9223372036854775807 < x3_1.size + 1) = False := eq_false (Nat.not_lt.2 c15)
      have H' := Aside0.mk H
      clear H
      go_wp2
      go_meet
      case rel => exact ⟨_, (x3_1 ++ (⟨#[44]⟩ : ByteArray)), (rs), H', ⟨by have := HK1.out; first | omega | exact Nat.le_refl _⟩, ⟨pz BK376⟩, ⟨bw⟩⟩
     rw [if_neg c14] at H
     have c14b0 := decide_eq_false c14
     clear c14
     (first | rw [c14b0] | rw [@decide_eq_true _ _ (of_decide_eq_true c14b1)] | rw [@decide_eq_false _ _ (of_decide_eq_false c14b1)] | (simp only [i64_w, i32_w]; rw [c14b0]) | skip)
     have H' := Aside0.mk H
     clear H
     go_wp2
     go_meet
     case rel => exact ⟨_, (x3_1), (rs), H', ⟨by have := HK1.out; first | omega | exact Nat.le_refl _⟩, ⟨pz BK376⟩, ⟨bw⟩⟩
    case rest =>
     clear HC11
     try clear c1
     try clear p2
     try clear c3
     try clear c3b0
     try clear c3b1
     try clear c3b2
     try clear p3
     try clear q3
     try clear hx3
     try clear c4
     try clear c6
     try clear c8
     try clear c8b0
     try clear c9
     try clear c9b0
     try clear c10
     try clear c10b0
     try clear c14
     try clear c14b0
     try clear c15
     try clear c15b0
     try clear c15b1
     try clear c15b2
     try clear hcz13_0
     try clear hcz13_1
     try clear hcz13_2
     try clear hcz13_3
     try clear hcz5_0
     try clear hcz5_1
     try clear hcz7_0
     try clear hcz7_1
     try clear hfz13_0
     try clear hfz13_1
     try clear hfz13_2
     try clear hfz13_3
     try clear hfz5_0
     try clear hfz5_1
     try clear hfz7_0
     try clear hfz7_1
     try clear hx375_0
     try clear hx375_1
     try clear hx375_2
     try clear hx375_3
     try clear p2
     try clear p375
     try clear q375
     obtain ⟨kq, x3_10, rfl, HA, HJ10, BK376, HB⟩ := hcut
     cases kq with
     | zero => exact absurd HA.out (by simp [spec_pzText.j1])
     | succ kj10 =>
      have H := HA.out
      clear HA
      simp only [spec_pzText.j1] at H
      obtain ⟨t377, A16, H⟩ := ob H
      (try dsimp only at H)
      obtain ⟨c17, H⟩ := oi H
      have c17b0 := eq_true c17
      have c17b1 := decide_eq_true c17
      try have c17b2 : (9223372036854775807 < t377.size + 1) = False := eq_false (Nat.not_lt.2 c17)
      obtain ⟨t378, A18, H⟩ := ob H
      (try dsimp only at H)
      obtain ⟨c19, H⟩ := oi H
      have c19b0 := eq_true c19
      have c19b1 := decide_eq_true c19
      try have c19b2 : (9223372036854775807 < (t377 ++ (⟨#[46]⟩ : ByteArray)).size + t378.size) = False := eq_false (Nat.not_lt.2 c19)
      try have c19b3 : (9223372036854775807 < t377.size + 1 + t378.size) = False := eq_false (by have h9_ := c19; clear H; simp only [ByteArray.size_append, ByteArray.size_extract] at h9_; simp only [eq_iff_iff, iff_true, iff_false] at *; have z9_ : (⟨#[46]⟩ : ByteArray).size = 1 := rfl; omega)
      obtain ⟨c20, H⟩ := oi H
      have c20b0 := eq_true c20
      have c20b1 := decide_eq_true c20
      try have c20b2 : (9223372036854775807 < ((t377 ++ (⟨#[46]⟩ : ByteArray)) ++ t378).size + 1) = False := eq_false (Nat.not_lt.2 c20)
      try have c20b3 : (9223372036854775807 < t377.size + 1 + t378.size + 1) = False := eq_false (by have h9_ := c20; clear H; simp only [ByteArray.size_append, ByteArray.size_extract] at h9_; simp only [eq_iff_iff, iff_true, iff_false] at *; have z9_ : (⟨#[46]⟩ : ByteArray).size = 1 := rfl; omega)
      obtain ⟨t379, A21, H⟩ := ob H
      (try dsimp only at H)
      obtain ⟨c22, H⟩ := oi H
      have c22b0 := eq_true c22
      have c22b1 := decide_eq_true c22
      try have c22b2 : (9223372036854775807 < (((t377 ++ (⟨#[46]⟩ : ByteArray)) ++ t378) ++ (⟨#[46]⟩ : ByteArray)).size + t379.size) = False := eq_false (Nat.not_lt.2 c22)
      try have c22b3 : (9223372036854775807 < t377.size + 1 + t378.size + 1 + t379.size) = False := eq_false (by have h9_ := c22; clear H; simp only [ByteArray.size_append, ByteArray.size_extract] at h9_; simp only [eq_iff_iff, iff_true, iff_false] at *; have z9_ : (⟨#[46]⟩ : ByteArray).size = 1 := rfl; omega)
      obtain ⟨c23, H⟩ := oi H
      have c23b0 := eq_true c23
      have c23b1 := decide_eq_true c23
      try have c23b2 : (9223372036854775807 < ((((t377 ++ (⟨#[46]⟩ : ByteArray)) ++ t378) ++ (⟨#[46]⟩ : ByteArray)) ++ t379).size + 1) = False := eq_false (Nat.not_lt.2 c23)
      try have c23b3 : (9223372036854775807 < t377.size + 1 + t378.size + 1 + t379.size + 1) = False := eq_false (by have h9_ := c23; clear H; simp only [ByteArray.size_append, ByteArray.size_extract] at h9_; simp only [eq_iff_iff, iff_true, iff_false] at *; have z9_ : (⟨#[46]⟩ : ByteArray).size = 1 := rfl; omega)
      obtain ⟨t380, A24, H⟩ := ob H
      (try dsimp only at H)
      obtain ⟨c25, H⟩ := oi H
      have c25b0 := eq_true c25
      have c25b1 := decide_eq_true c25
      try have c25b2 : (9223372036854775807 < (((((t377 ++ (⟨#[46]⟩ : ByteArray)) ++ t378) ++ (⟨#[46]⟩ : ByteArray)) ++ t379) ++ (⟨#[46]⟩ : ByteArray)).size + t380.size) = False := eq_false (Nat.not_lt.2 c25)
      try have c25b3 : (9223372036854775807 < t377.size + 1 + t378.size + 1 + t379.size + 1 + t380.size) = False := eq_false (by have h9_ := c25; clear H; simp only [ByteArray.size_append, ByteArray.size_extract] at h9_; simp only [eq_iff_iff, iff_true, iff_false] at *; have z9_ : (⟨#[46]⟩ : ByteArray).size = 1 := rfl; omega)
      obtain ⟨c26, H⟩ := oi H
      have c26b0 := eq_true c26
      have c26b1 := decide_eq_true c26
      try have c26b2 : (9223372036854775807 < x3_10.size + ((((((t377 ++ (⟨#[46]⟩ : ByteArray)) ++ t378) ++ (⟨#[46]⟩ : ByteArray)) ++ t379) ++ (⟨#[46]⟩ : ByteArray)) ++ t380).size) = False := eq_false (Nat.not_lt.2 c26)
      try have c26b3 : (9223372036854775807 < x3_10.size + (t377.size + 1 + t378.size + 1 + t379.size + 1 + t380.size)) = False := eq_false (by have h9_ := c26; clear H; simp only [ByteArray.size_append, ByteArray.size_extract] at h9_; simp only [eq_iff_iff, iff_true, iff_false] at *; have z9_ : (⟨#[46]⟩ : ByteArray).size = 1 := rfl; omega)
      have H' := Aside0.mk H
      clear H
      try go_wp2
      replace BK376 := Aside0.mk (blk_drew BK376.out)
      replace HB := Aside0.mk (below_drew1 HB.out)
      refine start_ (n := 21) (S := fun w' => w'.cell? ⟨gb376, 0, none⟩ = some (.int .i64 ((rd_T42 l0_1 x13_1).f0)) ∧ w'.cell? ⟨gb376, 1, none⟩ = some (.int .i64 ((rd_T42 l0_1 x13_1).f1)) ∧ w'.cell? ⟨gb376, 2, none⟩ = some (.int .i64 ((rd_T42 l0_1 x13_1).f2)) ∧ w'.cell? ⟨gb376, 3, none⟩ = some (.int .i64 ((rd_T42 l0_1 x13_1).f3))) (ds := []) (tb 21 0) (by kernel_rfl) rfl rfl ⟨ec BK376, ec BK376, ec BK376, ec BK376⟩ (fun hHeld => ?_); refine with_tabW spec_pzText.tab7 spec_pzText.bits7 (fun HT_ HW_ => ?_)
      generalize wc.drew = w27 at BK376 HB hHeld ⊢
      refine pu 0 (some 22) (tb 21 1) ?_
      refine pu 1 (some 23) (tb 21 3) ?_
      refine pu 5 (some 27) (tb 21 35) ?_
      refine pu 10 (some 32) (tb 21 1059) ?_
      refine pu 15 (some 37) (tb 21 33827) ?_
      refine tk 2 (some 24) (tb 21 33831) hHeld ?_
      refine tk 6 (some 28) (tb 21 33895) hHeld ?_
      refine tk 11 (some 33) (tb 21 35943) hHeld ?_
      refine tk 16 (some 38) (tb 21 101479) hHeld ?_
      refine one_ (i := 3) (N := some 25) (tb 21 101487) rfl rfl (one_of HT_.out (by kernel_rfl)) (by decide) (fun K hK => ?_)
      refine go1 Tryz.func63 #[.int .i64 ((rd_T42 l0_1 x13_1).f0)] ?_
      with_reducible refine (spec_l1Num.calls kj10 ((rd_T42 l0_1 x13_1).f0) t377 _ A16.out).mono ?_
      rintro e w28 ⟨rfl, hb⟩
      refine ⟨_, rfl, ?_⟩
      replace BK376 := nk BK376 hb
      replace HB := bs hb
      (try clear hb)
      refine hK.out _ _ ⟨ec BK376, ec BK376, ec BK376, ec BK376⟩ (fun hHeld => ?_)
      clear hK K
      refine nm (some 25) ?_
      refine pu 4 (some 26) (tb 21 101503) ?_
      refine one_ (i := 7) (N := some 29) (tb 21 101631) rfl rfl (one_of HT_.out (by kernel_rfl)) (by decide) (fun K hK => ?_)
      refine go1 Tryz.func63 #[.int .i64 ((rd_T42 l0_1 x13_1).f1)] ?_
      with_reducible refine (spec_l1Num.calls kj10 ((rd_T42 l0_1 x13_1).f1) t378 _ A18.out).mono ?_
      rintro e w29 ⟨rfl, hb⟩
      refine ⟨_, rfl, ?_⟩
      replace BK376 := nk BK376 hb
      replace HB := bs hb
      (try clear hb)
      refine hK.out _ _ ⟨ec BK376, ec BK376, ec BK376, ec BK376⟩ (fun hHeld => ?_)
      clear hK K
      refine nm (some 29) ?_
      refine pu 8 (some 30) (tb 21 101887) ?_
      refine pu 9 (some 31) (tb 21 102399) ?_
      refine one_ (i := 12) (N := some 34) (tb 21 106495) rfl rfl (one_of HT_.out (by kernel_rfl)) (by decide) (fun K hK => ?_)
      refine go1 Tryz.func63 #[.int .i64 ((rd_T42 l0_1 x13_1).f2)] ?_
      with_reducible refine (spec_l1Num.calls kj10 ((rd_T42 l0_1 x13_1).f2) t379 _ A21.out).mono ?_
      rintro e w30 ⟨rfl, hb⟩
      refine ⟨_, rfl, ?_⟩
      replace BK376 := nk BK376 hb
      replace HB := bs hb
      (try clear hb)
      refine hK.out _ _ ⟨ec BK376, ec BK376, ec BK376, ec BK376⟩ (fun hHeld => ?_)
      clear hK K
      refine nm (some 34) ?_
      refine pu 13 (some 35) (tb 21 114687) ?_
      refine pu 14 (some 36) (tb 21 131071) ?_
      refine one_ (i := 17) (N := some 39) (tb 21 262143) rfl rfl (one_of HT_.out (by kernel_rfl)) (by decide) (fun K hK => ?_)
      refine go1 Tryz.func63 #[.int .i64 ((rd_T42 l0_1 x13_1).f3)] ?_
      with_reducible refine (spec_l1Num.calls kj10 ((rd_T42 l0_1 x13_1).f3) t380 _ A24.out).mono ?_
      rintro e w31 ⟨rfl, hb⟩
      refine ⟨_, rfl, ?_⟩
      replace BK376 := nk BK376 hb
      replace HB := bs hb
      (try clear hb)
      refine hK.out _ _ ⟨ec BK376, ec BK376, ec BK376, ec BK376⟩ (fun hHeld => ?_)
      clear hK K
      refine nm (some 39) ?_
      refine pu 18 (some 40) (tb 21 524287) ?_
      refine pu 19 (some 41) (tb 21 1048575) ?_
      refine pu 20 (some 3) (tb 21 2097151) ?_
      refine done_ (done_of HT_.out (by kernel_rfl)) ?_
      try go_wp2
      go_roundg kj10
      case measure => have := HK1.out; have := HJ10.out; omega
      case rel => exact ⟨(x3_10 ++ ((((((t377 ++ (⟨#[46]⟩ : ByteArray)) ++ t378) ++ (⟨#[46]⟩ : ByteArray)) ++ t379) ++ (⟨#[46]⟩ : ByteArray)) ++ t380)), (wrap64 (x13_1 + 1)), (rs), (rs), H', ⟨by have := HK1.out; have := HJ10.out; omega⟩, ⟨bw⟩⟩
   rw [if_neg c8] at H
   have c8b0 := decide_eq_false c8
   clear c8
   obtain rfl := Option.some.inj H
   go_wp2
   go_ret
   exact ⟨rs, bw⟩
end Go.Proofs.YtfaakdokcldnkaaGreatDoor.PFnRowsGuessedOfAll
