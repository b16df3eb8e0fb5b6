-- Laid by xprint, a program of this session that runs over the kit's print.
import Derived.Test.YtmindeeacfdonaaDoorPFnExactSureSignsx0
import Derived.Test.YtmindeeacfdonaaDoorPFnExactSureSignsx3
import Derived.Test.YtmindeeacfdonaaDoorPFnExactSureSignsx4
namespace Go.Proofs.YtmindeeacfdonaaDoor.PFnExactSureSigns
open Go.RowKit Go.Proofs.YtmindeeacfdonaaDoorW.PrintWords Go.Proofs.YtmindeeacfdonaaDoorW.PrintLast Go.Proofs.YtmindeeacfdonaaDoorW.PrintMore Go.Proofs.YtmindeeacfdonaaDoor.Sq
attribute [local go_sem] max2_int min2_int max_two min_two max_three min_three max_four min_four   -- for this text's walks alone
set_option linter.unusedVariables false
set_option linter.unusedSimpArgs false

/-! ### spec_pzFits: function 57 -/
def spec_pzFits.f (k : Nat) (a0_0 : Int) (a0_1 : Int) (a0_2 : Int) (a0_3 : Int) (a1 : ByteArray) : Option (Bool) := (spec_pzValue.f k a0_0 a0_1 a0_2 a1).bind fun t176 => (some (t176 == a0_3))
theorem spec_pzFits.mono : ∀ a0 a1 a2 a3 a4 k, LeO (spec_pzFits.f k a0 a1 a2 a3 a4) (spec_pzFits.f (k + 1) a0 a1 a2 a3 a4) := by
  intro a0 a1 a2 a3 a4 k
  unfold spec_pzFits.f
  repeat' first
      | (with_reducible exact spec_pzValue.mono _ _ _ _ _)
      | (with_reducible exact LeO.refl _)
      | (with_reducible exact LeO.none _)
      | (with_reducible refine LeO.ite ?_ ?_)
      | (with_reducible refine LeO.bind ?_ (fun _ => ?_))
      | exact spec_pzValue.mono _ _ _ _ _
      | exact LeO.none _
      | refine LeO.ite ?_ ?_
      | refine LeO.bind ?_ (fun _ => ?_)
def spec_pzFits.T1 : Bool × List (List Nat × List Nat) := (true, [([], []), ([0], [0]), ([], []), ([2], [2]), ([], []), ([4], [4]), ([], []), ([1, 3, 5, 6], [1, 3, 5, 6]), ([], []), ([8], [8]), ([7, 9], [7, 9]), ([10, 7, 0, 1, 2, 3, 4, 5, 6, 7, 8, 9, 10], [10])])
def spec_pzFits.B1 : List Nat := [0, 1, 0, 4, 0, 16, 0, 127, 0, 256, 1023, 2047]
theorem spec_pzFits.tab1 : rtab .any (opsOf Tryd.f57 1) = spec_pzFits.T1 := by kernel_rfl
theorem spec_pzFits.bits1 : waitsOk spec_pzFits.T1.2 spec_pzFits.B1 = true := by kernel_rfl
set_option maxHeartbeats 8000000 in
set_option maxRecDepth 100000 in
theorem spec_pzFits.calls (k : Nat) (a0_0 : Int) (a0_1 : Int) (a0_2 : Int) (a0_3 : Int) (a1 : ByteArray) (r : Bool) (w : World) (h : spec_pzFits.f k a0_0 a0_1 a0_2 a0_3 a1 = some r) :
  Calls Tryd.prog 57 #[.agg #[.int .i64 a0_0, .int .i64 a0_1, .int .i64 a0_2, .int .i64 a0_3], .string a1] w fun e w' => e = .returned (.bool r) ∧ Below w.heap.size w w' := by
 have hu33 := Tryd.underlying33
 have HB := Aside0.mk (Below.refl w.heap.size w)
 unfold spec_pzFits.f at h
 have H := h
 clear h
 replace H := Option.bind_eq_some_iff.mp H
 obtain ⟨t176, A30, H⟩ := H
 (try dsimp only at H)
 have A3 := Aside0.mk A30
 clear A30
 obtain rfl := Option.some.inj H
 go_enter Tryd.func57, Tryd.ntmps57
 try go_wp2_with (first | ((with_reducible refine gate_dst (N := 2) rfl ?_); refine bx 2 33 #[.int .i64 a0_0, .int .i64 a0_1, .int .i64 a0_2, .int .i64 a0_3] ?_; intro gb175 hg w4 hbox hb; have BK175 := hbox; have GW175 := gs hg; have GE175 := gs hg; replace HB := bs hb; clear hb hbox hg))
 replace BK175 := Aside0.mk (blk_drew BK175.out)
 replace HB := Aside0.mk (below_drew1 HB.out)
 refine start_ (n := 12) (S := fun w' => w'.cell? ⟨gb175, 0, none⟩ = some (.int .i64 a0_0) ∧ w'.cell? ⟨gb175, 1, none⟩ = some (.int .i64 a0_1) ∧ w'.cell? ⟨gb175, 2, none⟩ = some (.int .i64 a0_2) ∧ w'.cell? ⟨gb175, 3, none⟩ = some (.int .i64 a0_3)) (ds := []) #[false, false, false, false, false, false, false, false, false, false, false, false] (by kernel_rfl) rfl rfl ⟨ec BK175, ec BK175, ec BK175, ec BK175⟩ (fun hHeld => ?_); refine with_tabW spec_pzFits.tab1 spec_pzFits.bits1 (fun HT_ HW_ => ?_)
 generalize w4.drew = w5 at BK175 HB hHeld ⊢
 refine pu 0 (some 5) #[true, false, false, false, false, false, false, false, false, false, false, false] ?_
 refine pu 2 (some 7) #[true, false, true, false, false, false, false, false, false, false, false, false] ?_
 refine pu 4 (some 9) #[true, false, true, false, true, false, false, false, false, false, false, false] ?_
 refine pu 6 (some 11) #[true, false, true, false, true, false, true, false, false, false, false, false] ?_
 refine pu 8 (some 13) #[true, false, true, false, true, false, true, false, true, false, false, false] ?_
 refine take_ (i := 1) (N := some 6) (v := ?_) (a' := ?_) #[true, true, true, false, true, false, true, false, true, false, false, false] rfl rfl (take_ofW HT_.out HW_.out (by kernel_rfl)) (fun _ _ _ h => h) (Or.inl ⟨by rfl, ?_⟩) hHeld ?_ ?_
 rotate_left
 ·rintro w' ⟨s0, s1, s2, s3⟩
  go_simp
  with_reducible rfl
 rotate_left
 ·simp only [Act.put, List.setIfInBounds_toArray, List.set_cons_zero, List.set_cons_succ, i64_w, i32_w]
  rfl
 refine take_ (i := 3) (N := some 8) (v := ?_) (a' := ?_) #[true, true, true, true, true, false, true, false, true, false, false, false] rfl rfl (take_ofW HT_.out HW_.out (by kernel_rfl)) (fun _ _ _ h => h) (Or.inl ⟨by rfl, ?_⟩) hHeld ?_ ?_
 rotate_left
 ·rintro w' ⟨s0, s1, s2, s3⟩
  go_simp
  with_reducible rfl
 rotate_left
 ·simp only [Act.put, List.setIfInBounds_toArray, List.set_cons_zero, List.set_cons_succ, i64_w, i32_w]
  rfl
 refine take_ (i := 5) (N := some 10) (v := ?_) (a' := ?_) #[true, true, true, true, true, true, true, false, true, false, false, false] rfl rfl (take_ofW HT_.out HW_.out (by kernel_rfl)) (fun _ _ _ h => h) (Or.inl ⟨by rfl, ?_⟩) hHeld ?_ ?_
 rotate_left
 ·rintro w' ⟨s0, s1, s2, s3⟩
  go_simp
  with_reducible rfl
 rotate_left
 ·simp only [Act.put, List.setIfInBounds_toArray, List.set_cons_zero, List.set_cons_succ, i64_w, i32_w]
  rfl
 refine take_ (i := 9) (N := some 14) (v := ?_) (a' := ?_) #[true, true, true, true, true, true, true, false, true, true, false, false] rfl rfl (take_ofW HT_.out HW_.out (by kernel_rfl)) (fun _ _ _ h => h) (Or.inl ⟨by rfl, ?_⟩) hHeld ?_ ?_
 rotate_left
 ·rintro w' ⟨s0, s1, s2, s3⟩
  go_simp
  with_reducible rfl
 rotate_left
 ·simp only [Act.put, List.setIfInBounds_toArray, List.set_cons_zero, List.set_cons_succ, i64_w, i32_w]
  rfl
 refine one_ (i := 7) (N := some 12) #[true, true, true, true, true, true, true, true, true, true, false, false] rfl rfl (one_of HT_.out (by kernel_rfl)) (by decide) (fun K hK => ?_)
 refine goes_ Tryd.func85 (by kernel_rfl) rfl #[.int .i64 a0_0, .int .i64 a0_1, .int .i64 a0_2, .string a1] (by rfl) rfl rfl (by (try simp only [List.map_toArray, List.map_cons, List.map_nil]); first | done | rfl | (simp only [List.length_drop, List.length_take]; rfl)) ?_
 with_reducible refine (spec_pzValue.calls k a0_0 a0_1 a0_2 a1 t176 _ A3.out).mono ?_
 rintro e w6 ⟨rfl, hb⟩
 refine ⟨_, rfl, ?_⟩
 replace BK175 := nk BK175 hb
 replace HB := bs hb
 (try clear hb)
 refine hK.out _ _ ⟨ec BK175, ec BK175, ec BK175, ec BK175⟩ (fun hHeld => ?_)
 clear hK K
 refine nm (some 12) ?_
 refine pu 10 (some 15) #[true, true, true, true, true, true, true, true, true, true, true, false] ?_
 refine pu 11 (some 4) #[true, true, true, true, true, true, true, true, true, true, true, true] ?_
 refine done_ (done_of HT_.out (by kernel_rfl)) ?_
 try go_wp2
 go_ret
 exact ⟨rs, bw⟩

/-! ### spec_rwMake: function 94 -/
def spec_rwMake.l0 : Nat → Int → Int → ByteArray → Option (ByteArray)
  | 0, _, _, _ => none
  | k + 1, x0, x1, x5 => if x0 > 0 then (if (Int.tmod x1 2) = 1 then (if 1 + x5.size ≤ 9223372036854775807 then (spec_rwMake.l0 k (wrap64 (x0 - 1)) (wrap64 (Int.tdiv x1 2)) ((⟨#[62]⟩ : ByteArray) ++ x5)) else (none)) else (if 1 + x5.size ≤ 9223372036854775807 then (spec_rwMake.l0 k (wrap64 (x0 - 1)) (wrap64 (Int.tdiv x1 2)) ((⟨#[60]⟩ : ByteArray) ++ x5)) else (none))) else (some x5)
def spec_rwMake.f (k : Nat) (a0 : Int) (a1 : Int) : Option (ByteArray) := spec_rwMake.l0 k a0 a1 (⟨#[]⟩ : ByteArray)
theorem spec_rwMake.mono_l : ∀ k, (∀ y0 y1 y2, LeO (spec_rwMake.l0 k y0 y1 y2) (spec_rwMake.l0 (k + 1) y0 y1 y2))
  | 0 => fun _ _ _ r h => by simp [spec_rwMake.l0] at h
  | k + 1 => by
    have ih0 := spec_rwMake.mono_l k
    · intro y0 y1 y2
      unfold spec_rwMake.l0
      repeat' first
      | (with_reducible exact ih0 _ _ _)
      | (with_reducible exact LeO.refl _)
      | (with_reducible exact LeO.none _)
      | (with_reducible refine LeO.ite ?_ ?_)
      | (with_reducible refine LeO.bind ?_ (fun _ => ?_))
      | exact ih0 _ _ _
      | exact LeO.none _
      | refine LeO.ite ?_ ?_
      | refine LeO.bind ?_ (fun _ => ?_)
theorem spec_rwMake.mono : ∀ a0 a1 k, LeO (spec_rwMake.f k a0 a1) (spec_rwMake.f (k + 1) a0 a1) := by
  intro a0 a1 k
  have ih0 := spec_rwMake.mono_l k
  unfold spec_rwMake.f
  repeat' first
      | (with_reducible exact ih0 _ _ _)
      | (with_reducible exact LeO.refl _)
      | (with_reducible exact LeO.none _)
      | (with_reducible refine LeO.ite ?_ ?_)
      | (with_reducible refine LeO.bind ?_ (fun _ => ?_))
      | exact ih0 _ _ _
      | exact LeO.none _
      | refine LeO.ite ?_ ?_
      | refine LeO.bind ?_ (fun _ => ?_)
set_option maxHeartbeats 8000000 in
set_option maxRecDepth 100000 in
theorem spec_rwMake.calls (k : Nat) (a0 : Int) (a1 : Int) (r : ByteArray) (w : World) (h : spec_rwMake.f k a0 a1 = some r) :
  Calls Tryd.prog 94 #[.int .i64 a0, .int .i64 a1] w fun e w' => e = .returned (.string r) ∧ Drawn0 w w' := by
 unfold spec_rwMake.f at h
 have H := h
 clear h
 have H' := Aside0.mk H
 clear H
 go_enter Tryd.func94, Tryd.ntmps94
 go_wp2
 go_loopg [0, 1, 5] k (fun kq v0 v1 v5 w' => ∃ (x0_1 : Int) (x1_1 : Int) (x5_1 : ByteArray), v0 = .int .i64 x0_1 ∧ v1 = .int .i64 x1_1 ∧ v5 = .string x5_1 ∧ Aside0 (spec_rwMake.l0 kq x0_1 x1_1 x5_1 = some r) ∧ Aside0 (kq ≤ k) ∧ Drawn0 w w')
 case atStart => exact ⟨(a0), (a1), ((⟨#[]⟩ : ByteArray)), (rs), (rs), (rs), H', ⟨Nat.le_refl _⟩, by repeat (first | exact Drawn0.refl _ | apply Drawn0.step)⟩
 case round =>
  clear H'
  try clear p2
  obtain ⟨x0_1, x1_1, x5_1, rfl, rfl, rfl, HA, HK1, ⟨m1, rfl⟩⟩ := hrel
  cases gk with
  | zero => exact absurd HA.out (by simp [spec_rwMake.l0])
  | succ k1 =>
   have H := HA.out
   clear HA
   simp only [spec_rwMake.l0] at H
   by_cases c3 : x0_1 > 0
   ·rw [if_pos c3] at H
    have c3b0 : decide (0 < x0_1) = true := decide_eq_true c3
    clear c3
    by_cases c4 : (Int.tmod x1_1 2) = 1
    ·rw [if_pos c4] at H
     have c4b0 : ((Int.tmod x1_1 2) == 1) = true := beq_iff_eq.mpr c4
     have c4b1 : ((Int.tmod x1_1 2) != 1) = false := bne_eq_false_iff_eq.mpr c4
     clear c4
     by_cases c5 : 1 + x5_1.size ≤ 9223372036854775807
     ·rw [if_pos c5] at H
      have c5b0 := eq_true c5
      have c5b1 : decide (1 + x5_1.size ≤ 9223372036854775807) = true := decide_eq_true c5
      try have c5b2 : (9223372036854775807 < 1 + x5_1.size) = False := eq_false (Nat.not_lt.2 c5)
      have H' := Aside0.mk H
      clear H
      go_wp2
      go_roundg k1
      case measure => have := HK1.out; omega
      case rel => exact ⟨(wrap64 (x0_1 - 1)), (wrap64 (Int.tdiv x1_1 2)), ((⟨#[62]⟩ : ByteArray) ++ x5_1), (rs), (rs), (rs), H', ⟨by have := HK1.out; omega⟩, by repeat (first | exact Drawn0.refl _ | apply Drawn0.step)⟩
     ·rw [if_neg c5] at H
      exact absurd H (by simp)
    ·rw [if_neg c4] at H
     have c4b0 : ((Int.tmod x1_1 2) == 1) = false := beq_eq_false_iff_ne.mpr c4
     have c4b1 : ((Int.tmod x1_1 2) != 1) = true := bne_iff_ne.mpr c4
     by_cases c6 : 1 + x5_1.size ≤ 9223372036854775807
     ·rw [if_pos c6] at H
      have c6b0 := eq_true c6
      have c6b1 : decide (1 + x5_1.size ≤ 9223372036854775807) = true := decide_eq_true c6
      try have c6b2 : (9223372036854775807 < 1 + x5_1.size) = False := eq_false (Nat.not_lt.2 c6)
      have H' := Aside0.mk H
      clear H
      go_wp2
      go_roundg k1
      case measure => have := HK1.out; omega
      case rel => exact ⟨(wrap64 (x0_1 - 1)), (wrap64 (Int.tdiv x1_1 2)), ((⟨#[60]⟩ : ByteArray) ++ x5_1), (rs), (rs), (rs), H', ⟨by have := HK1.out; omega⟩, by repeat (first | exact Drawn0.refl _ | apply Drawn0.step)⟩
     ·rw [if_neg c6] at H
      exact absurd H (by simp)
   ·rw [if_neg c3] at H
    have c3b0 : decide (0 < x0_1) = false := decide_eq_false c3
    clear c3
    obtain rfl := Option.some.inj H
    go_wp2
    go_ret
    exact ⟨rs, by repeat (first | exact Drawn0.refl _ | apply Drawn0.step)⟩

/-! ### spec_pzAll: function 73 -/
mutual
def spec_pzAll.l0 : Nat → Int → List (S33) → List ByteArray → Int → Option (List ByteArray)
  | 0, _, _, _, _ => none
  | k + 1, x0, x1, x5, x6 => if 0 ≤ x0 then (if x6 < (shl .i64 1 x0) then ((spec_rwMake.f k x0 x6).bind fun t177 => (spec_pzAll.l1 k x0 x1 x5 x6 t177 true x1 (x1.length : Int) 0)) else (some x5)) else (none)
def spec_pzAll.l1 : Nat → Int → List (S33) → List ByteArray → Int → ByteArray → Bool → List (S33) → Int → Int → Option (List ByteArray)
  | 0, _, _, _, _, _, _, _, _, _ => none
  | k + 1, x0, x1, x5, x6, x7, x8, x20, x21, x22 => if x22 < x21 then (if 0 ≤ x22 then (if x22 < (x20.length : Int) then (if x8 = true then ((spec_pzFits.f k ((rd_T33 x20 x22).f0) ((rd_T33 x20 x22).f1) ((rd_T33 x20 x22).f2) ((rd_T33 x20 x22).f3) x7).bind fun t180 => (spec_pzAll.l1 k x0 x1 x5 x6 x7 t180 x20 x21 (wrap64 (x22 + 1)))) else (spec_pzAll.l1 k x0 x1 x5 x6 x7 false x20 x21 (wrap64 (x22 + 1)))) else (none)) else (none)) else (if x8 = true then (if x5.length < 8796093022208 then (spec_pzAll.l0 k x0 x1 (x5 ++ [x7]) (wrap64 (x6 + 1))) else (none)) else (spec_pzAll.l0 k x0 x1 x5 (wrap64 (x6 + 1))))
end
def spec_pzAll.f (k : Nat) (a0 : Int) (l1 : List (S33)) : Option (List ByteArray) := spec_pzAll.l0 k a0 l1 ([] : List ByteArray) 0
theorem spec_pzAll.mono_l : ∀ k, (∀ y0 y1 y2 y3, LeO (spec_pzAll.l0 k y0 y1 y2 y3) (spec_pzAll.l0 (k + 1) y0 y1 y2 y3)) ∧ (∀ y0 y1 y2 y3 y4 y5 y6 y7 y8, LeO (spec_pzAll.l1 k y0 y1 y2 y3 y4 y5 y6 y7 y8) (spec_pzAll.l1 (k + 1) y0 y1 y2 y3 y4 y5 y6 y7 y8))
  | 0 => ⟨fun _ _ _ _ r h => by simp [spec_pzAll.l0] at h, fun _ _ _ _ _ _ _ _ _ r h => by simp [spec_pzAll.l1] at h⟩
  | k + 1 => by
    obtain ⟨ih0, ih1⟩ := spec_pzAll.mono_l k
    refine ⟨?_, ?_⟩
    · intro y0 y1 y2 y3
      unfold spec_pzAll.l0
      repeat' first
      | (with_reducible exact ih0 _ _ _ _)
      | (with_reducible exact ih1 _ _ _ _ _ _ _ _ _)
      | (with_reducible exact spec_pzFits.mono _ _ _ _ _ _)
      | (with_reducible exact spec_rwMake.mono _ _ _)
      | (with_reducible exact LeO.refl _)
      | (with_reducible exact LeO.none _)
      | (with_reducible refine LeO.ite ?_ ?_)
      | (with_reducible refine LeO.bind ?_ (fun _ => ?_))
      | exact ih0 _ _ _ _
      | exact ih1 _ _ _ _ _ _ _ _ _
      | exact spec_pzFits.mono _ _ _ _ _ _
      | exact spec_rwMake.mono _ _ _
      | exact LeO.none _
      | refine LeO.ite ?_ ?_
      | refine LeO.bind ?_ (fun _ => ?_)
    · intro y0 y1 y2 y3 y4 y5 y6 y7 y8
      unfold spec_pzAll.l1
      repeat' first
      | (with_reducible exact ih0 _ _ _ _)
      | (with_reducible exact ih1 _ _ _ _ _ _ _ _ _)
      | (with_reducible exact spec_pzFits.mono _ _ _ _ _ _)
      | (with_reducible exact spec_rwMake.mono _ _ _)
      | (with_reducible exact LeO.refl _)
      | (with_reducible exact LeO.none _)
      | (with_reducible refine LeO.ite ?_ ?_)
      | (with_reducible refine LeO.bind ?_ (fun _ => ?_))
      | exact ih0 _ _ _ _
      | exact ih1 _ _ _ _ _ _ _ _ _
      | exact spec_pzFits.mono _ _ _ _ _ _
      | exact spec_rwMake.mono _ _ _
      | exact LeO.none _
      | refine LeO.ite ?_ ?_
      | refine LeO.bind ?_ (fun _ => ?_)
theorem spec_pzAll.mono : ∀ a0 a1 k, LeO (spec_pzAll.f k a0 a1) (spec_pzAll.f (k + 1) a0 a1) := by
  intro a0 a1 k
  obtain ⟨ih0, ih1⟩ := spec_pzAll.mono_l k
  unfold spec_pzAll.f
  repeat' first
      | (with_reducible exact ih0 _ _ _ _)
      | (with_reducible exact ih1 _ _ _ _ _ _ _ _ _)
      | (with_reducible exact spec_pzFits.mono _ _ _ _ _ _)
      | (with_reducible exact spec_rwMake.mono _ _ _)
      | (with_reducible exact LeO.refl _)
      | (with_reducible exact LeO.none _)
      | (with_reducible refine LeO.ite ?_ ?_)
      | (with_reducible refine LeO.bind ?_ (fun _ => ?_))
      | exact ih0 _ _ _ _
      | exact ih1 _ _ _ _ _ _ _ _ _
      | exact spec_pzFits.mono _ _ _ _ _ _
      | exact spec_rwMake.mono _ _ _
      | exact LeO.none _
      | refine LeO.ite ?_ ?_
      | refine LeO.bind ?_ (fun _ => ?_)
set_option maxHeartbeats 8000000 in
set_option maxRecDepth 100000 in
theorem spec_pzAll.calls (k : Nat) (a0 : Int) (A1 : Option Addr) (c1 : Nat) (l1 : List (S33)) (r : List ByteArray) (w : World) (hr1 : Kd.C k33 w A1 l1.length l1) (hc1 : l1.length ≤ c1) (h : spec_pzAll.f k a0 l1 = some r) :
  Calls Tryd.prog 73 #[.int .i64 a0, .slice A1 l1.length c1] w fun e w' => ∃ v0_ : Value, e = .returned (v0_) ∧ Kd.R Kd.string 9 w' w.heap.size (fun _ => True) v0_ r ∧ Below w.heap.size w w' := by
 have hu33 := Tryd.underlying33
 have HR1 := Aside0.mk hr1
 have HC1 := Aside0.mk hc1
 clear hr1 hc1
 have HB := Aside0.mk (Below.refl w.heap.size w)
 unfold spec_pzAll.f at h
 have H := h
 clear h
 have H' := Aside0.mk H
 clear H
 go_enter Tryd.func73, Tryd.ntmps73
 go_wp2
 go_loopg [5, 6] k (fun kq v5 v6 w' => ∃ (x5_1 : List ByteArray) (x6_1 : Int), v6 = .int .i64 x6_1 ∧ Aside0 (spec_pzAll.l0 kq a0 l1 x5_1 x6_1 = some r) ∧ Aside0 (kq ≤ k) ∧ Aside0 (Kd.R Kd.string 9 w' w.heap.size (fun _ => True) v5 x5_1) ∧ Aside0 (Below w.heap.size w w'))
 case atStart => exact ⟨(([] : List ByteArray)), (0), (rs), H', ⟨Nat.le_refl _⟩, ⟨by first | exact Kd.R_nil _ _ _ _ _ | exact Kd.N_nil _ _ _ _ _ | exact Kd.V_nil _ _ _ _ _ | exact Kd.Q_nil _ _ _ _ _ | exact Kd.S_nil _ _ _ _ _⟩, ⟨bw⟩⟩
 case round =>
  clear H'
  try clear c1
  try clear p2
  obtain ⟨x5_1, x6_1, rfl, HA, HK1, HO_5, HB⟩ := hrel
  cases gk with
  | zero => exact absurd HA.out (by simp [spec_pzAll.l0])
  | succ k1 =>
   have H := HA.out
   clear HA
   simp only [spec_pzAll.l0] at H
   by_cases c3 : 0 ≤ a0
   ·rw [if_pos c3] at H
    have c3b0 := eq_true c3
    have c3b1 : decide (0 ≤ a0) = true := decide_eq_true c3
    clear c3
    obtain ⟨ji4, hji4⟩ : ∃ j_ : Int, (shl .i64 1 a0) = j_ := ⟨_, rfl⟩
    replace H : (if x6_1 < (ji4) then ((spec_rwMake.f k1 a0 x6_1).bind fun t177 => (spec_pzAll.l1 k1 a0 l1 x5_1 x6_1 t177 true l1 (l1.length : Int) 0)) else (some x5_1)) = some r := by first | (rw [hji4] at H; exact H) | (simp only [hji4] at H ⊢; exact H)
    have hji4_ : (IntKind.i64.wrap (1 * 2 ^ min a0.toNat 64)) = ji4 := hji4
    have hji4z : a0 ≤ 64 → (IntKind.i64.wrap (1 * 2 ^ a0.toNat)) = ji4 := shl_small hji4
    have hji4u : (IntKind.i64.wrap (2 ^ min a0.toNat 64)) = ji4 := by have h_ := hji4_; rw [Int.one_mul] at h_; exact h_
    have hji4v : a0 ≤ 64 → (IntKind.i64.wrap (2 ^ a0.toNat)) = ji4 := fun hle_ => by have h_ := hji4z hle_; rw [Int.one_mul] at h_; exact h_
    have hji4y : (wrap64 (1 * 2 ^ min a0.toNat 64)) = ji4 := (i64_w _).symm.trans hji4_
    have hji4x : a0 ≤ 64 → (wrap64 (1 * 2 ^ a0.toNat)) = ji4 := fun h_ => (i64_w _).symm.trans (hji4z h_)
    by_cases c5 : x6_1 < (ji4)
    ·rw [if_pos c5] at H
     have c5b0 : decide (x6_1 < (ji4)) = true := decide_eq_true c5
     clear c5
     replace H := Option.bind_eq_some_iff.mp H
     obtain ⟨t177, A60, H⟩ := H
     (try dsimp only at H)
     have A6 := Aside0.mk A60
     clear A60
     have H' := Aside0.mk H
     clear H
     go_wp2_with (first | ((with_reducible refine gate_callee (f := 94) rfl ?_); refine gl (some 19) Tryd.func94 #[.int .i64 a0, .int .i64 x6_1] ?_; (with_reducible refine (spec_rwMake.calls k1 a0 x6_1 t177 _ A6.out).mono ?_); rintro e w' ⟨rfl, ⟨nd, rfl⟩⟩; refine ⟨_, rfl, ?_⟩))
     go_loopg [8, 22] k1 (fun kq v8 v22 w' => ∃ (x8_2 : Bool) (x22_2 : Int), v8 = .bool x8_2 ∧ v22 = .int .i64 x22_2 ∧ Aside0 (spec_pzAll.l1 kq a0 l1 x5_1 x6_1 t177 x8_2 l1 (l1.length : Int) x22_2 = some r) ∧ Aside0 (kq ≤ k1) ∧ Aside0 (Kd.R Kd.string 9 w' w.heap.size (fun _ => True) u5 x5_1) ∧ Aside0 (Below w.heap.size w w'))
     case atStart => exact ⟨(true), (0), (rs), (rs), H', ⟨Nat.le_refl _⟩, ⟨pr HO_5⟩, ⟨bw⟩⟩
     case round =>
      clear H'
      try clear c1
      try clear p2
      try clear c3
      try clear c3b0
      try clear c3b1
      try clear c5
      try clear c5b0
      try clear p6
      try clear p2
      obtain ⟨x8_2, x22_2, rfl, rfl, HA, HK2, HO_5, HB⟩ := hrel
      cases gk with
      | zero => exact absurd HA.out (by simp [spec_pzAll.l1])
      | succ k2 =>
       have H := HA.out
       clear HA
       simp only [spec_pzAll.l1] at H
       by_cases c7 : x22_2 < (l1.length : Int)
       ·rw [if_pos c7] at H
        have c7b0 : decide (x22_2 < (l1.length : Int)) = true := decide_eq_true c7
        clear c7
        by_cases c8 : 0 ≤ x22_2
        ·rw [if_pos c8] at H
         have c8b0 : decide (0 ≤ x22_2) = true := decide_eq_true c8
         clear c8
         by_cases c9 : x22_2 < (l1.length : Int)
         ·rw [if_pos c9] at H
          have c9b0 : decide (x22_2 < (l1.length : Int)) = true := decide_eq_true c9
          clear c9
          by_cases c10 : x8_2 = true
          ·subst c10
           rw [if_pos rfl] at H
           replace H := Option.bind_eq_some_iff.mp H
           obtain ⟨t180, A110, H⟩ := H
           (try dsimp only at H)
           have A11 := Aside0.mk A110
           clear A110
           have H' := Aside0.mk H
           clear H
           have p178 : 0 ≤ (x22_2 : Int) := of_decide_eq_true (by first | (with_reducible assumption) | assumption)
           have q178 : x22_2 < (l1.length : Int) := of_decide_eq_true (by first | (with_reducible assumption) | assumption)
           obtain ⟨ad178, e178, hx178_0, hx178_1, hx178_2, hx178_3⟩ := at_T33 HR1.out x22_2 p178 q178
           cases e178
           replace hx178_0 := (HB.out.cell (World.block_lt_of_cell? w _ hx178_0)).trans hx178_0
           replace hx178_1 := (HB.out.cell (World.block_lt_of_cell? w _ hx178_1)).trans hx178_1
           replace hx178_2 := (HB.out.cell (World.block_lt_of_cell? w _ hx178_2)).trans hx178_2
           replace hx178_3 := (HB.out.cell (World.block_lt_of_cell? w _ hx178_3)).trans hx178_3
           replace p178 := eq_true p178
           replace q178 := eq_true q178
           go_wp2_with (first | ((with_reducible refine gate_dst (N := 10) rfl ?_); refine bx 10 33 #[.int .i64 0, .int .i64 0, .int .i64 0, .int .i64 0] ?_; intro gb179 hg w12 hbox hb; replace HO_5 := Aside0.mk (Kd.R_below (pr HO_5) hb); have BK179 := hbox; have GW179 := gs hg; have GE179 := gs hg; replace HB := bs hb; clear hb hbox hg; have hcz13_0 := bc BK179 0 (.int .i64 0); have hcz13_1 := bc BK179 1 (.int .i64 0); have hcz13_2 := bc BK179 2 (.int .i64 0); have hcz13_3 := bc BK179 3 (.int .i64 0); have hfz13_0 := blk_frozen BK179.out 0; have hfz13_1 := blk_frozen BK179.out 1; have hfz13_2 := blk_frozen BK179.out 2; have hfz13_3 := blk_frozen BK179.out 3) | (go_at_call 57; (with_reducible refine (spec_pzFits.calls k2 ((rd_T33 l1 x22_2).f0) ((rd_T33 l1 x22_2).f1) ((rd_T33 l1 x22_2).f2) ((rd_T33 l1 x22_2).f3) t177 t180 _ A11.out).mono ?_); rintro e w14 ⟨rfl, hb⟩; replace HO_5 := Aside0.mk (Kd.R_below (by (with_reducible repeat (first | apply Kd.R_alloc | apply Kd.R_drewN | apply Kd.R_drew)); exact (Kd.R_mono (Kd.R_far (p := ⟨gb179, 3, none⟩) (Kd.R_far (p := ⟨gb179, 2, none⟩) (Kd.R_far (p := ⟨gb179, 1, none⟩) (Kd.R_far (p := ⟨gb179, 0, none⟩) (Kd.R_types HO_5.out BK179.out (by decide)) (fun _ hk => hk.2) (.int .i64 ((rd_T33 l1 x22_2).f0))) (fun _ hk => hk.2) (.int .i64 ((rd_T33 l1 x22_2).f1))) (fun _ hk => hk.2) (.int .i64 ((rd_T33 l1 x22_2).f2))) (fun _ hk => hk.2) (.int .i64 ((rd_T33 l1 x22_2).f3))) (fun _ h_ => h_.1))) hb); replace BK179 := Aside0.mk (blk_below (g := gb179) (o := .cells #[.int .i64 ((rd_T33 l1 x22_2).f0), .int .i64 ((rd_T33 l1 x22_2).f1), .int .i64 ((rd_T33 l1 x22_2).f2), .int .i64 ((rd_T33 l1 x22_2).f3)] 33 (0, 0)) (by (with_reducible repeat (first | refine blk_drewN ?_ _ | refine blk_drew ?_ | refine blk_alloc ?_ _)); refine blk_put (cs := #[.int .i64 ((rd_T33 l1 x22_2).f0), .int .i64 ((rd_T33 l1 x22_2).f1), .int .i64 ((rd_T33 l1 x22_2).f2), .int .i64 0]) ?_ 3 _ rfl; (with_reducible repeat (first | refine blk_drewN ?_ _ | refine blk_drew ?_ | refine blk_alloc ?_ _)); refine blk_put (cs := #[.int .i64 ((rd_T33 l1 x22_2).f0), .int .i64 ((rd_T33 l1 x22_2).f1), .int .i64 0, .int .i64 0]) ?_ 2 _ rfl; (with_reducible repeat (first | refine blk_drewN ?_ _ | refine blk_drew ?_ | refine blk_alloc ?_ _)); refine blk_put (cs := #[.int .i64 ((rd_T33 l1 x22_2).f0), .int .i64 0, .int .i64 0, .int .i64 0]) ?_ 1 _ rfl; (with_reducible repeat (first | refine blk_drewN ?_ _ | refine blk_drew ?_ | refine blk_alloc ?_ _)); refine blk_put (cs := #[.int .i64 0, .int .i64 0, .int .i64 0, .int .i64 0]) ?_ 0 _ rfl; (with_reducible repeat (first | refine blk_drewN ?_ _ | refine blk_drew ?_ | refine blk_alloc ?_ _)); exact BK179.out) hb); replace HB := bs hb; (try clear hb)))
           go_roundg k2
           case measure => have := HK1.out; have := HK2.out; omega
           case rel => exact ⟨(t180), (wrap64 (x22_2 + 1)), (rs), (rs), H', ⟨by have := HK1.out; have := HK2.out; omega⟩, ⟨pr HO_5⟩, ⟨bw⟩⟩
          ·replace c10 := Bool.eq_false_iff.mpr c10
           subst c10
           rw [if_neg (show ¬ (false = true) by decide)] at H
           have H' := Aside0.mk H
           clear H
           have p178 : 0 ≤ (x22_2 : Int) := of_decide_eq_true (by first | (with_reducible assumption) | assumption)
           have q178 : x22_2 < (l1.length : Int) := of_decide_eq_true (by first | (with_reducible assumption) | assumption)
           obtain ⟨ad178, e178, hx178_0, hx178_1, hx178_2, hx178_3⟩ := at_T33 HR1.out x22_2 p178 q178
           cases e178
           replace hx178_0 := (HB.out.cell (World.block_lt_of_cell? w _ hx178_0)).trans hx178_0
           replace hx178_1 := (HB.out.cell (World.block_lt_of_cell? w _ hx178_1)).trans hx178_1
           replace hx178_2 := (HB.out.cell (World.block_lt_of_cell? w _ hx178_2)).trans hx178_2
           replace hx178_3 := (HB.out.cell (World.block_lt_of_cell? w _ hx178_3)).trans hx178_3
           replace p178 := eq_true p178
           replace q178 := eq_true q178
           go_wp2_with (first | ((with_reducible refine gate_dst (N := 10) rfl ?_); refine bx 10 33 #[.int .i64 0, .int .i64 0, .int .i64 0, .int .i64 0] ?_; intro gb179 hg w15 hbox hb; replace HO_5 := Aside0.mk (Kd.R_below (pr HO_5) hb); have BK179 := hbox; have GW179 := gs hg; have GE179 := gs hg; replace HB := bs hb; clear hb hbox hg; have hcz16_0 := bc BK179 0 (.int .i64 0); have hcz16_1 := bc BK179 1 (.int .i64 0); have hcz16_2 := bc BK179 2 (.int .i64 0); have hcz16_3 := bc BK179 3 (.int .i64 0); have hfz16_0 := blk_frozen BK179.out 0; have hfz16_1 := blk_frozen BK179.out 1; have hfz16_2 := blk_frozen BK179.out 2; have hfz16_3 := blk_frozen BK179.out 3))
           go_roundg k2
           case measure => have := HK1.out; have := HK2.out; omega
           case rel => exact ⟨(false), (wrap64 (x22_2 + 1)), (rs), (rs), H', ⟨by have := HK1.out; have := HK2.out; omega⟩, ⟨by (with_reducible repeat (first | apply Kd.R_alloc | apply Kd.R_drewN | apply Kd.R_drew)); exact Kd.R_mono (Kd.R_far (p := ⟨gb179, 3, none⟩) (Kd.R_far (p := ⟨gb179, 2, none⟩) (Kd.R_far (p := ⟨gb179, 1, none⟩) (Kd.R_far (p := ⟨gb179, 0, none⟩) (Kd.R_types HO_5.out BK179.out (by decide)) (fun _ hk => hk.2) (.int .i64 ((rd_T33 l1 x22_2).f0))) (fun _ hk => hk.2) (.int .i64 ((rd_T33 l1 x22_2).f1))) (fun _ hk => hk.2) (.int .i64 ((rd_T33 l1 x22_2).f2))) (fun _ hk => hk.2) (.int .i64 ((rd_T33 l1 x22_2).f3))) (fun _ hk => trivial)⟩, ⟨bw⟩⟩
         ·rw [if_neg c9] at H
          exact absurd H (by simp)
        ·rw [if_neg c8] at H
         exact absurd H (by simp)
       ·rw [if_neg c7] at H
        have c7b0 : decide (x22_2 < (l1.length : Int)) = false := decide_eq_false c7
        clear c7
        by_cases c17 : x8_2 = true
        ·subst c17
         rw [if_pos rfl] at H
         by_cases c18 : x5_1.length < 8796093022208
         ·rw [if_pos c18] at H
          have LMc18 := Aside0.mk c18
          clear c18
          obtain ⟨y181, hy181⟩ : ∃ y_ : List ByteArray, y_ = (x5_1 ++ [t177]) := ⟨_, rfl⟩
          replace H : (spec_pzAll.l0 k2 a0 l1 y181 (wrap64 (x6_1 + 1))) = some r := by first | (rw [hy181]; with_reducible exact H) | (have H2_ := (Option.bind_some _ _).symm.trans H; rw [hy181]; with_reducible exact H2_) | (have H2_ := (Option.bind_some _ _).symm.trans H; with_reducible exact H2_) | with_reducible exact H | (rw [hy181]; exact H) | exact H
          have Ny181 := Aside0.mk hy181
          clear hy181
          have H' := Aside0.mk H
          clear H
          go_wp2_with (first | ((with_reducible refine gate_builtin (b := .append) (xs := #[.tmp 34, .tmp 36]) rfl ?_); at_builtin; refine Kd.R_append Kd.string (w0 := w) w.heap.size rfl (.tmp 34) (.tmp 36) 60 9 (.string ⟨#[]⟩) 16 rfl Tryd.underlying60 info9 rfl (by decide) (by omega) u5 x5_1 t177 [.string t177] (fun _ => True) (fun _ => False) rfl rfl ?aP (fun _ hk => hk.elim) ?aF ?aO ?aB ?aS ?aL ?_; (case aP => exact rfl); (case aB => exact bw); (case aF => exact (fun _ _ => trivial)); (case aO => exact (pr HO_5)); (case aS => exact (below_size bw)); (case aL => have := LMc18.out; omega); intro v182 w19 ho hb hg hat; rw [← Ny181.out] at ho; have n0_ := Aside0.mk (hb); have n1_ := Aside0.mk (ho); clear HB; clear HO_5; have HB := n0_; have HO183 := n1_; clear n0_ n1_; clear ho hb hg hat))
          go_roundg k2
          case measure => have := HK1.out; have := HK2.out; omega
          case rel => exact ⟨(y181), (wrap64 (x6_1 + 1)), (rs), H', ⟨by have := HK1.out; have := HK2.out; omega⟩, ⟨pr HO183⟩, ⟨bw⟩⟩
         ·rw [if_neg c18] at H
          exact absurd H (by simp)
        ·replace c17 := Bool.eq_false_iff.mpr c17
         subst c17
         rw [if_neg (show ¬ (false = true) by decide)] at H
         have H' := Aside0.mk H
         clear H
         go_wp2
         go_roundg k2
         case measure => have := HK1.out; have := HK2.out; omega
         case rel => exact ⟨(x5_1), (wrap64 (x6_1 + 1)), (rs), H', ⟨by have := HK1.out; have := HK2.out; omega⟩, ⟨pr HO_5⟩, ⟨bw⟩⟩
    ·rw [if_neg c5] at H
     have c5b0 : decide (x6_1 < (ji4)) = false := decide_eq_false c5
     clear c5
     obtain rfl := Option.some.inj H
     go_wp2
     go_ret
     exact ⟨_, by first | rfl | (simp [errW_none, errW_some] <;> rfl) | (simp only [← hji4]; first | rfl | (simp [errW_none, errW_some] <;> rfl)) | (simp [*, errW_none, errW_some] <;> rfl), pr HO_5, bw⟩
   ·rw [if_neg c3] at H
    exact absurd H (by simp)

/-! ### spec_SureSigns: function 37 -/
mutual
def spec_SureSigns.l0 : Nat → List ByteArray → ByteArray → Int → Int → List (S33) → Option (ByteArray × Bool)
  | 0, _, _, _, _, _ => none
  | k + 1, x4, x5, x6, x185000, x185001 => if x6 < x185000 then (if 0 < (x4.length : Int) then (if 0 ≤ x6 then (if x6 ≤ (wrap64 (x6 + 1)) then (if (wrap64 (x6 + 1)) ≤ ((rdOf ByteArray.empty x4 0).size : Int) then (spec_SureSigns.l1 k x4 x5 x6 ((rdOf ByteArray.empty x4 0).extract (x6 : Int).toNat ((wrap64 (x6 + 1)) : Int).toNat) x4 (x4.length : Int) 0 x185000 x185001) else (none)) else (none)) else (none)) else (none)) else (some (x5, true))
def spec_SureSigns.l1 : Nat → List ByteArray → ByteArray → Int → ByteArray → List ByteArray → Int → Int → Int → List (S33) → Option (ByteArray × Bool)
  | 0, _, _, _, _, _, _, _, _, _ => none
  | k + 1, x4, x5, x6, x7, x34, x35, x36, x185000, x185001 => if x36 < x35 then (if 0 ≤ x36 then (if x36 < (x34.length : Int) then (if 0 ≤ x6 then (if x6 ≤ (wrap64 (x6 + 1)) then (if (wrap64 (x6 + 1)) ≤ ((rdOf ByteArray.empty x34 x36).size : Int) then (if ((rdOf ByteArray.empty x34 x36).extract (x6 : Int).toNat ((wrap64 (x6 + 1)) : Int).toNat).toList = x7.toList then (spec_SureSigns.l1 k x4 x5 x6 x7 x34 x35 (wrap64 (x36 + 1)) x185000 x185001) else (if x5.size + 1 ≤ 9223372036854775807 then (spec_SureSigns.l0 k x4 (x5 ++ (⟨#[63]⟩ : ByteArray)) (wrap64 (x6 + 1)) x185000 x185001) else (none))) else (none)) else (none)) else (none)) else (none)) else (none)) else (if x5.size + x7.size ≤ 9223372036854775807 then (spec_SureSigns.l0 k x4 (x5 ++ x7) (wrap64 (x6 + 1)) x185000 x185001) else (none))
end
def spec_SureSigns.f (k : Nat) (a0_0 : Int) (l0_1 : List (S33)) : Option (ByteArray × Bool) := (spec_pzGood.f k a0_0 l0_1).bind fun t185 => (if t185 = true then ((spec_pzAll.f k a0_0 l0_1).bind fun t186 => (if (t186.length : Int) = 0 then (some ((⟨#[]⟩ : ByteArray), false)) else (spec_SureSigns.l0 k t186 (⟨#[]⟩ : ByteArray) 0 a0_0 l0_1))) else (some ((⟨#[]⟩ : ByteArray), false)))
theorem spec_SureSigns.mono_l : ∀ k, (∀ y0 y1 y2 y3 y4, LeO (spec_SureSigns.l0 k y0 y1 y2 y3 y4) (spec_SureSigns.l0 (k + 1) y0 y1 y2 y3 y4)) ∧ (∀ y0 y1 y2 y3 y4 y5 y6 y7 y8, LeO (spec_SureSigns.l1 k y0 y1 y2 y3 y4 y5 y6 y7 y8) (spec_SureSigns.l1 (k + 1) y0 y1 y2 y3 y4 y5 y6 y7 y8))
  | 0 => ⟨fun _ _ _ _ _ r h => by simp [spec_SureSigns.l0] at h, fun _ _ _ _ _ _ _ _ _ r h => by simp [spec_SureSigns.l1] at h⟩
  | k + 1 => by
    obtain ⟨ih0, ih1⟩ := spec_SureSigns.mono_l k
    refine ⟨?_, ?_⟩
    · intro y0 y1 y2 y3 y4
      unfold spec_SureSigns.l0
      repeat' first
      | (with_reducible exact ih0 _ _ _ _ _)
      | (with_reducible exact ih1 _ _ _ _ _ _ _ _ _)
      | (with_reducible exact spec_pzAll.mono _ _ _)
      | (with_reducible exact spec_pzGood.mono _ _ _)
      | (with_reducible exact LeO.refl _)
      | (with_reducible exact LeO.none _)
      | (with_reducible refine LeO.ite ?_ ?_)
      | (with_reducible refine LeO.bind ?_ (fun _ => ?_))
      | exact ih0 _ _ _ _ _
      | exact ih1 _ _ _ _ _ _ _ _ _
      | exact spec_pzAll.mono _ _ _
      | exact spec_pzGood.mono _ _ _
      | exact LeO.none _
      | refine LeO.ite ?_ ?_
      | refine LeO.bind ?_ (fun _ => ?_)
    · intro y0 y1 y2 y3 y4 y5 y6 y7 y8
      unfold spec_SureSigns.l1
      repeat' first
      | (with_reducible exact ih0 _ _ _ _ _)
      | (with_reducible exact ih1 _ _ _ _ _ _ _ _ _)
      | (with_reducible exact spec_pzAll.mono _ _ _)
      | (with_reducible exact spec_pzGood.mono _ _ _)
      | (with_reducible exact LeO.refl _)
      | (with_reducible exact LeO.none _)
      | (with_reducible refine LeO.ite ?_ ?_)
      | (with_reducible refine LeO.bind ?_ (fun _ => ?_))
      | exact ih0 _ _ _ _ _
      | exact ih1 _ _ _ _ _ _ _ _ _
      | exact spec_pzAll.mono _ _ _
      | exact spec_pzGood.mono _ _ _
      | exact LeO.none _
      | refine LeO.ite ?_ ?_
      | refine LeO.bind ?_ (fun _ => ?_)
theorem spec_SureSigns.mono : ∀ a0 a1 k, LeO (spec_SureSigns.f k a0 a1) (spec_SureSigns.f (k + 1) a0 a1) := by
  intro a0 a1 k
  obtain ⟨ih0, ih1⟩ := spec_SureSigns.mono_l k
  unfold spec_SureSigns.f
  repeat' first
      | (with_reducible exact ih0 _ _ _ _ _)
      | (with_reducible exact ih1 _ _ _ _ _ _ _ _ _)
      | (with_reducible exact spec_pzAll.mono _ _ _)
      | (with_reducible exact spec_pzGood.mono _ _ _)
      | (with_reducible exact LeO.refl _)
      | (with_reducible exact LeO.none _)
      | (with_reducible refine LeO.ite ?_ ?_)
      | (with_reducible refine LeO.bind ?_ (fun _ => ?_))
      | exact ih0 _ _ _ _ _
      | exact ih1 _ _ _ _ _ _ _ _ _
      | exact spec_pzAll.mono _ _ _
      | exact spec_pzGood.mono _ _ _
      | exact LeO.none _
      | refine LeO.ite ?_ ?_
      | refine LeO.bind ?_ (fun _ => ?_)
set_option maxHeartbeats 8000000 in
set_option maxRecDepth 100000 in
theorem spec_SureSigns.calls (k : Nat) (a0_0 : Int) (A0_1 : Option Addr) (c0_1 : Nat) (l0_1 : List (S33)) (r1 : ByteArray) (r2 : Bool) (w : World) (hr0_1 : Kd.C k33 w A0_1 l0_1.length l0_1) (hc0_1 : l0_1.length ≤ c0_1) (h : spec_SureSigns.f k a0_0 l0_1 = some (r1, r2)) :
  Calls Tryd.prog 37 #[.agg #[.int .i64 a0_0, .slice A0_1 l0_1.length c0_1]] w fun e w' => e = .returned (.tuple #[.string r1, .bool r2]) ∧ Below w.heap.size w w' := by
 have hu38 := Tryd.underlying38
 have HR0_1 := Aside0.mk hr0_1
 have HC0_1 := Aside0.mk hc0_1
 clear hr0_1 hc0_1
 have HB := Aside0.mk (Below.refl w.heap.size w)
 unfold spec_SureSigns.f at h
 have H := h
 clear h
 replace H := Option.bind_eq_some_iff.mp H
 obtain ⟨t185, A20, H⟩ := H
 (try dsimp only at H)
 have A2 := Aside0.mk A20
 clear A20
 by_cases c3 : t185 = true
 ·subst c3
  rw [if_pos rfl] at H
  replace H := Option.bind_eq_some_iff.mp H
  obtain ⟨t186, A40, H⟩ := H
  (try dsimp only at H)
  have A4 := Aside0.mk A40
  clear A40
  by_cases c5 : (t186.length : Int) = 0
  ·rw [if_pos c5] at H
   have c5b0 : ((t186.length : Int) == 0) = true := beq_iff_eq.mpr c5
   have c5b1 : ((t186.length : Int) != 0) = false := bne_eq_false_iff_eq.mpr c5
   clear c5
   simp only [Option.some.injEq, Prod.mk.injEq] at H
   obtain ⟨rfl, rfl⟩ := H
   go_enter Tryd.func37, Tryd.ntmps37
   go_wp2_with (first | ((with_reducible refine gate_dst (N := 1) rfl ?_); refine bx 1 38 #[.int .i64 a0_0, .slice A0_1 l0_1.length c0_1] ?_; intro gb184 hg w6 hbox hb; have BK184 := hbox; have GW184 := gs hg; have GE184 := gs hg; replace HB := bs hb; clear hb hbox hg; have hcz7_0 := bc BK184 0 (.int .i64 a0_0); have hcz7_1 := bc BK184 1 (.slice A0_1 l0_1.length c0_1); have hfz7_0 := blk_frozen BK184.out 0; have hfz7_1 := blk_frozen BK184.out 1) | ((with_reducible refine gate_callee (f := 72) rfl ?_); refine gl (some 11) Tryd.func72 #[.agg #[.int .i64 a0_0, .slice A0_1 l0_1.length c0_1]] ?_; (with_reducible refine (spec_pzGood.calls k a0_0 _ _ l0_1 true _ ?side1 ?side2 A2.out).mono ?_); (case side1 => repeat (first | exact (Kd.C_below HR0_1.out HB.out) | (with_reducible refine Kd.C_alloc ?_ _) | (with_reducible refine Kd.C_drewN ?_ _) | (with_reducible refine Kd.C_drew ?_))); (case side2 => exact HC0_1.out); rintro e w8 ⟨rfl, hb⟩; refine ⟨_, rfl, ?_⟩; replace BK184 := nk BK184 hb; replace HB := bs hb; (try clear hb); have hcz9_0 := bc BK184 0 (.int .i64 a0_0); have hcz9_1 := bc BK184 1 (.slice A0_1 l0_1.length c0_1); have hfz9_0 := blk_frozen BK184.out 0; have hfz9_1 := blk_frozen BK184.out 1) | ((with_reducible refine gate_callee (f := 73) rfl ?_); refine gl (some 17) Tryd.func73 #[.int .i64 a0_0, .slice A0_1 l0_1.length c0_1] ?_; (with_reducible refine (spec_pzAll.calls k a0_0 _ _ l0_1 t186 _ ?side1 ?side2 A4.out).mono ?_); (case side1 => repeat (first | exact (Kd.C_below HR0_1.out HB.out) | (with_reducible refine Kd.C_alloc ?_ _) | (with_reducible refine Kd.C_drewN ?_ _) | (with_reducible refine Kd.C_drew ?_))); (case side2 => exact HC0_1.out); rintro e w10 ⟨v187, rfl, ho0, hb⟩; refine ⟨_, rfl, ?_⟩; have HO188 := Aside0.mk (Kd.R_lower ho0 (below_size bw)); replace BK184 := nk BK184 hb; replace HB := bs hb; (try clear hb); (try clear ho0); obtain ⟨Ao11, co11, eo11⟩ := Kd.R_slice HO188.out; subst eo11))
   go_ret2
   exact ⟨rs, bw⟩
  ·rw [if_neg c5] at H
   have c5b0 : ((t186.length : Int) == 0) = false := beq_eq_false_iff_ne.mpr c5
   have c5b1 : ((t186.length : Int) != 0) = true := bne_iff_ne.mpr c5
   have c5b2 : ¬ (t186 = []) := fun h_ => c5 (by rw [h_]; rfl)
   have H' := Aside0.mk H
   clear H
   go_enter Tryd.func37, Tryd.ntmps37
   go_wp2_with (first | ((with_reducible refine gate_dst (N := 1) rfl ?_); refine bx 1 38 #[.int .i64 a0_0, .slice A0_1 l0_1.length c0_1] ?_; intro gb184 hg w12 hbox hb; have BK184 := hbox; have GW184 := gs hg; have GE184 := gs hg; replace HB := bs hb; clear hb hbox hg; have hcz13_0 := bc BK184 0 (.int .i64 a0_0); have hcz13_1 := bc BK184 1 (.slice A0_1 l0_1.length c0_1); have hfz13_0 := blk_frozen BK184.out 0; have hfz13_1 := blk_frozen BK184.out 1) | ((with_reducible refine gate_callee (f := 72) rfl ?_); refine gl (some 11) Tryd.func72 #[.agg #[.int .i64 a0_0, .slice A0_1 l0_1.length c0_1]] ?_; (with_reducible refine (spec_pzGood.calls k a0_0 _ _ l0_1 true _ ?side1 ?side2 A2.out).mono ?_); (case side1 => repeat (first | exact (Kd.C_below HR0_1.out HB.out) | (with_reducible refine Kd.C_alloc ?_ _) | (with_reducible refine Kd.C_drewN ?_ _) | (with_reducible refine Kd.C_drew ?_))); (case side2 => exact HC0_1.out); rintro e w14 ⟨rfl, hb⟩; refine ⟨_, rfl, ?_⟩; replace BK184 := nk BK184 hb; replace HB := bs hb; (try clear hb); have hcz15_0 := bc BK184 0 (.int .i64 a0_0); have hcz15_1 := bc BK184 1 (.slice A0_1 l0_1.length c0_1); have hfz15_0 := blk_frozen BK184.out 0; have hfz15_1 := blk_frozen BK184.out 1) | ((with_reducible refine gate_callee (f := 73) rfl ?_); refine gl (some 17) Tryd.func73 #[.int .i64 a0_0, .slice A0_1 l0_1.length c0_1] ?_; (with_reducible refine (spec_pzAll.calls k a0_0 _ _ l0_1 t186 _ ?side1 ?side2 A4.out).mono ?_); (case side1 => repeat (first | exact (Kd.C_below HR0_1.out HB.out) | (with_reducible refine Kd.C_alloc ?_ _) | (with_reducible refine Kd.C_drewN ?_ _) | (with_reducible refine Kd.C_drew ?_))); (case side2 => exact HC0_1.out); rintro e w16 ⟨v187, rfl, ho0, hb⟩; refine ⟨_, rfl, ?_⟩; have HO188 := Aside0.mk (Kd.R_lower ho0 (below_size bw)); replace BK184 := nk BK184 hb; replace HB := bs hb; (try clear hb); (try clear ho0); obtain ⟨Ao17, co17, eo17⟩ := Kd.R_slice HO188.out; subst eo17))
   go_loopg [5, 6] k (fun kq v5 v6 w' => ∃ (x5_1 : ByteArray) (x6_1 : Int), v5 = .string x5_1 ∧ v6 = .int .i64 x6_1 ∧ Aside0 (spec_SureSigns.l0 kq t186 x5_1 x6_1 a0_0 l0_1 = some (r1, r2)) ∧ Aside0 (kq ≤ k) ∧ Aside0 (Kd.R Kd.string 9 w' w.heap.size (fun _ => True) (.slice Ao17 t186.length co17) t186) ∧ Aside0 (w'.heap[gb184]? = some (.cells #[.int .i64 a0_0, (.slice A0_1 l0_1.length c0_1)] 38 (0, 0))) ∧ Aside0 (Below w.heap.size w w'))
   case atStart => exact ⟨((⟨#[]⟩ : ByteArray)), (0), (rs), (rs), H', ⟨Nat.le_refl _⟩, ⟨pr HO188⟩, ⟨pk BK184⟩, ⟨bw⟩⟩
   case round =>
    clear H'
    try clear p2
    try clear c3
    try clear c5
    try clear c5b0
    try clear c5b1
    try clear c5b2
    try clear c7
    try clear hcz13_0
    try clear hcz13_1
    try clear hcz15_0
    try clear hcz15_1
    try clear hcz7_0
    try clear hcz7_1
    try clear hcz9_0
    try clear hcz9_1
    try clear hfz13_0
    try clear hfz13_1
    try clear hfz15_0
    try clear hfz15_1
    try clear hfz7_0
    try clear hfz7_1
    try clear hfz9_0
    try clear hfz9_1
    obtain ⟨x5_1, x6_1, rfl, rfl, HA, HK1, HO_4, BK184, HB⟩ := hrel
    cases gk with
    | zero => exact absurd HA.out (by simp [spec_SureSigns.l0])
    | succ k1 =>
     have H := HA.out
     clear HA
     simp only [spec_SureSigns.l0] at H
     by_cases c18 : x6_1 < a0_0
     ·rw [if_pos c18] at H
      have c18b0 : decide (x6_1 < a0_0) = true := decide_eq_true c18
      clear c18
      by_cases c19 : 0 < (t186.length : Int)
      ·rw [if_pos c19] at H
       have c19b0 : decide (0 < (t186.length : Int)) = true := decide_eq_true c19
       have c19b1 : decide (0 < t186.length) = true := decide_eq_true (by omega)
       clear c19
       by_cases c20 : 0 ≤ x6_1
       ·rw [if_pos c20] at H
        have c20b0 := eq_true c20
        have c20b1 : decide (0 ≤ x6_1) = true := decide_eq_true c20
        clear c20
        by_cases c21 : x6_1 ≤ (wrap64 (x6_1 + 1))
        ·rw [if_pos c21] at H
         have c21b0 := eq_true c21
         have c21b1 : decide (x6_1 ≤ (wrap64 (x6_1 + 1))) = true := decide_eq_true c21
         by_cases c22 : (wrap64 (x6_1 + 1)) ≤ ((rdOf ByteArray.empty t186 0).size : Int)
         ·rw [if_pos c22] at H
          have c22b0 := eq_true c22
          have c22b1 : decide ((wrap64 (x6_1 + 1)) ≤ ((rdOf ByteArray.empty t186 0).size : Int)) = true := decide_eq_true c22
          have H' := Aside0.mk H
          clear H
          have hcz23_0 : wr.cell? ⟨gb184, 0, none⟩ = some (.int .i64 a0_0) := ec BK184
          have hcz23_1 : wr.cell? ⟨gb184, 1, none⟩ = some (.slice A0_1 l0_1.length c0_1) := ec BK184
          have hfz23_0 := blk_frozen BK184.out 0
          have hfz23_1 := blk_frozen BK184.out 1
          have p189 : 0 ≤ (0 : Int) := (by omega)
          have q189 : 0 < (t186.length : Int) := of_decide_eq_true (by first | (with_reducible assumption) | assumption)
          obtain ⟨ad189, e189, hx189_0⟩ := Kd.at_string (Kd.R_reads' HO_4.out).2.2 0 p189 q189
          cases e189
          have qi189 : (0 < t186.length) = True := eq_true (by omega)
          (try rw [show ((0 : Int)).toNat = 0 from rfl] at hx189_0)
          (try rw [Addr.add_zero'] at hx189_0)
          replace p189 := eq_true p189
          replace q189 := eq_true q189
          go_wp2
          go_loopg [7, 36] k1 (fun kq v7 v36 w' => ∃ (x7_2 : ByteArray) (x36_2 : Int), v7 = .string x7_2 ∧ v36 = .int .i64 x36_2 ∧ Aside0 (spec_SureSigns.l1 kq t186 x5_1 x6_1 x7_2 t186 (t186.length : Int) x36_2 a0_0 l0_1 = some (r1, r2)) ∧ Aside0 (kq ≤ k1) ∧ Aside0 (Kd.R Kd.string 9 w' w.heap.size (fun _ => True) (.slice (some ad189) t186.length co17) t186) ∧ Aside0 (Kd.R Kd.string 9 w' w.heap.size (fun _ => True) (.slice (some ad189) t186.length co17) t186) ∧ Aside0 (w'.heap[gb184]? = some (.cells #[.int .i64 a0_0, (.slice A0_1 l0_1.length c0_1)] 38 (0, 0))) ∧ Aside0 (Below w.heap.size w w'))
          case atStart => exact ⟨((rdOf ByteArray.empty t186 0).extract (x6_1 : Int).toNat ((wrap64 (x6_1 + 1)) : Int).toNat), (0), (rs), (rs), H', ⟨Nat.le_refl _⟩, ⟨pr HO_4⟩, ⟨pr HO_4⟩, ⟨pk BK184⟩, ⟨bw⟩⟩
          case round =>
           clear H'
           try clear c1
           try clear p1
           try clear q1
           try clear hx1
           try clear qi1
           try clear c2
           try clear p2
           try clear c3
           try clear c5
           try clear c5b0
           try clear c5b1
           try clear c5b2
           try clear p6
           try clear c7
           try clear c18
           try clear c18b0
           try clear p18
           try clear q18
           try clear hx18
           try clear qi18
           try clear c19
           try clear c19b0
           try clear c19b1
           try clear c20
           try clear c20b0
           try clear c20b1
           try clear c21
           try clear c21b0
           try clear c21b1
           try clear c22
           try clear c22b0
           try clear c22b1
           try clear hcz13_0
           try clear hcz13_1
           try clear hcz15_0
           try clear hcz15_1
           try clear hcz23_0
           try clear hcz23_1
           try clear hcz7_0
           try clear hcz7_1
           try clear hcz9_0
           try clear hcz9_1
           try clear hfz13_0
           try clear hfz13_1
           try clear hfz15_0
           try clear hfz15_1
           try clear hfz23_0
           try clear hfz23_1
           try clear hfz7_0
           try clear hfz7_1
           try clear hfz9_0
           try clear hfz9_1
           try clear hx189_0
           try clear p189
           try clear p2
           try clear q189
           obtain ⟨x7_2, x36_2, rfl, rfl, HA, HK2, HO_4, HO_34, BK184, HB⟩ := hrel
           cases gk with
           | zero => exact absurd HA.out (by simp [spec_SureSigns.l1])
           | succ k2 =>
            have H := HA.out
            clear HA
            simp only [spec_SureSigns.l1] at H
            by_cases c24 : x36_2 < (t186.length : Int)
            ·rw [if_pos c24] at H
             have c24b0 : decide (x36_2 < (t186.length : Int)) = true := decide_eq_true c24
             clear c24
             by_cases c25 : 0 ≤ x36_2
             ·rw [if_pos c25] at H
              have c25b0 : decide (0 ≤ x36_2) = true := decide_eq_true c25
              clear c25
              by_cases c26 : x36_2 < (t186.length : Int)
              ·rw [if_pos c26] at H
               have c26b0 : decide (x36_2 < (t186.length : Int)) = true := decide_eq_true c26
               clear c26
               by_cases c27 : 0 ≤ x6_1
               ·rw [if_pos c27] at H
                have c27b0 := eq_true c27
                have c27b1 : decide (0 ≤ x6_1) = true := decide_eq_true c27
                clear c27
                by_cases c28 : x6_1 ≤ (wrap64 (x6_1 + 1))
                ·rw [if_pos c28] at H
                 have c28b0 := eq_true c28
                 have c28b1 : decide (x6_1 ≤ (wrap64 (x6_1 + 1))) = true := decide_eq_true c28
                 by_cases c29 : (wrap64 (x6_1 + 1)) ≤ ((rdOf ByteArray.empty t186 x36_2).size : Int)
                 ·rw [if_pos c29] at H
                  have c29b0 := eq_true c29
                  have c29b1 : decide ((wrap64 (x6_1 + 1)) ≤ ((rdOf ByteArray.empty t186 x36_2).size : Int)) = true := decide_eq_true c29
                  by_cases c30 : ((rdOf ByteArray.empty t186 x36_2).extract (x6_1 : Int).toNat ((wrap64 (x6_1 + 1)) : Int).toNat).toList = x7_2.toList
                  ·rw [if_pos c30] at H
                   have c30b0 : (((rdOf ByteArray.empty t186 x36_2).extract (x6_1 : Int).toNat ((wrap64 (x6_1 + 1)) : Int).toNat).toList == x7_2.toList) = true := beq_iff_eq.mpr c30
                   have c30b1 : (((rdOf ByteArray.empty t186 x36_2).extract (x6_1 : Int).toNat ((wrap64 (x6_1 + 1)) : Int).toNat).toList != x7_2.toList) = false := bne_eq_false_iff_eq.mpr c30
                   clear c30
                   have H' := Aside0.mk H
                   clear H
                   have p190 : 0 ≤ (x36_2 : Int) := of_decide_eq_true (by first | (with_reducible assumption) | assumption)
                   have q190 : x36_2 < (t186.length : Int) := of_decide_eq_true (by first | (with_reducible assumption) | assumption)
                   obtain ⟨ad190, e190, hx190_0⟩ := Kd.at_string (Kd.R_reads' HO_34.out).2.2 x36_2 p190 q190
                   obtain rfl : ad189 = ad190 := (by injection e190)
                   replace p190 := eq_true p190
                   replace q190 := eq_true q190
                   go_wp2
                   go_roundg k2
                   case measure => have := HK1.out; have := HK2.out; omega
                   case rel => exact ⟨(x7_2), (wrap64 (x36_2 + 1)), (rs), (rs), H', ⟨by have := HK1.out; have := HK2.out; omega⟩, ⟨pr HO_4⟩, ⟨pr HO_34⟩, ⟨pk BK184⟩, ⟨bw⟩⟩
                  ·rw [if_neg c30] at H
                   have c30b0 : (((rdOf ByteArray.empty t186 x36_2).extract (x6_1 : Int).toNat ((wrap64 (x6_1 + 1)) : Int).toNat).toList == x7_2.toList) = false := beq_eq_false_iff_ne.mpr c30
                   have c30b1 : (((rdOf ByteArray.empty t186 x36_2).extract (x6_1 : Int).toNat ((wrap64 (x6_1 + 1)) : Int).toNat).toList != x7_2.toList) = true := bne_iff_ne.mpr c30
                   by_cases c31 : x5_1.size + 1 ≤ 9223372036854775807
                   ·rw [if_pos c31] at H
                    have c31b0 := eq_true c31
                    have c31b1 : decide (x5_1.size + 1 ≤ 9223372036854775807) = true := decide_eq_true c31
                    try have c31b2 : (9223372036854775807 < x5_1.size + 1) = False := eq_false (Nat.not_lt.2 c31)
                    have H' := Aside0.mk H
                    clear H
                    have p190 : 0 ≤ (x36_2 : Int) := of_decide_eq_true (by first | (with_reducible assumption) | assumption)
                    have q190 : x36_2 < (t186.length : Int) := of_decide_eq_true (by first | (with_reducible assumption) | assumption)
                    obtain ⟨ad190, e190, hx190_0⟩ := Kd.at_string (Kd.R_reads' HO_34.out).2.2 x36_2 p190 q190
                    obtain rfl : ad189 = ad190 := (by injection e190)
                    replace p190 := eq_true p190
                    replace q190 := eq_true q190
                    go_wp2
                    go_roundg k2
                    case measure => have := HK1.out; have := HK2.out; omega
                    case rel => exact ⟨(x5_1 ++ (⟨#[63]⟩ : ByteArray)), (wrap64 (x6_1 + 1)), (rs), (rs), H', ⟨by have := HK1.out; have := HK2.out; omega⟩, ⟨pr HO_4⟩, ⟨pk BK184⟩, ⟨bw⟩⟩
                   ·rw [if_neg c31] at H
                    exact absurd H (by simp)
                 ·rw [if_neg c29] at H
                  exact absurd H (by simp)
                ·rw [if_neg c28] at H
                 exact absurd H (by simp)
               ·rw [if_neg c27] at H
                exact absurd H (by simp)
              ·rw [if_neg c26] at H
               exact absurd H (by simp)
             ·rw [if_neg c25] at H
              exact absurd H (by simp)
            ·rw [if_neg c24] at H
             have c24b0 : decide (x36_2 < (t186.length : Int)) = false := decide_eq_false c24
             clear c24
             by_cases c32 : x5_1.size + x7_2.size ≤ 9223372036854775807
             ·rw [if_pos c32] at H
              have c32b0 := eq_true c32
              have c32b1 : decide (x5_1.size + x7_2.size ≤ 9223372036854775807) = true := decide_eq_true c32
              try have c32b2 : (9223372036854775807 < x5_1.size + x7_2.size) = False := eq_false (Nat.not_lt.2 c32)
              have H' := Aside0.mk H
              clear H
              go_wp2
              go_roundg k2
              case measure => have := HK1.out; have := HK2.out; omega
              case rel => exact ⟨(x5_1 ++ x7_2), (wrap64 (x6_1 + 1)), (rs), (rs), H', ⟨by have := HK1.out; have := HK2.out; omega⟩, ⟨pr HO_4⟩, ⟨pk BK184⟩, ⟨bw⟩⟩
             ·rw [if_neg c32] at H
              exact absurd H (by simp)
         ·rw [if_neg c22] at H
          exact absurd H (by simp)
        ·rw [if_neg c21] at H
         exact absurd H (by simp)
       ·rw [if_neg c20] at H
        exact absurd H (by simp)
      ·rw [if_neg c19] at H
       exact absurd H (by simp)
     ·rw [if_neg c18] at H
      have c18b0 : decide (x6_1 < a0_0) = false := decide_eq_false c18
      clear c18
      simp only [Option.some.injEq, Prod.mk.injEq] at H
      obtain ⟨rfl, rfl⟩ := H
      have hcz33_0 : wr.cell? ⟨gb184, 0, none⟩ = some (.int .i64 a0_0) := ec BK184
      have hcz33_1 : wr.cell? ⟨gb184, 1, none⟩ = some (.slice A0_1 l0_1.length c0_1) := ec BK184
      have hfz33_0 := blk_frozen BK184.out 0
      have hfz33_1 := blk_frozen BK184.out 1
      go_wp2
      go_ret2
      exact ⟨rs, bw⟩
 ·replace c3 := Bool.eq_false_iff.mpr c3
  subst c3
  rw [if_neg (show ¬ (false = true) by decide)] at H
  simp only [Option.some.injEq, Prod.mk.injEq] at H
  obtain ⟨rfl, rfl⟩ := H
  go_enter Tryd.func37, Tryd.ntmps37
  go_wp2_with (first | ((with_reducible refine gate_dst (N := 1) rfl ?_); refine bx 1 38 #[.int .i64 a0_0, .slice A0_1 l0_1.length c0_1] ?_; intro gb184 hg w34 hbox hb; have BK184 := hbox; have GW184 := gs hg; have GE184 := gs hg; replace HB := bs hb; clear hb hbox hg; have hcz35_0 := bc BK184 0 (.int .i64 a0_0); have hcz35_1 := bc BK184 1 (.slice A0_1 l0_1.length c0_1); have hfz35_0 := blk_frozen BK184.out 0; have hfz35_1 := blk_frozen BK184.out 1) | ((with_reducible refine gate_callee (f := 72) rfl ?_); refine gl (some 11) Tryd.func72 #[.agg #[.int .i64 a0_0, .slice A0_1 l0_1.length c0_1]] ?_; (with_reducible refine (spec_pzGood.calls k a0_0 _ _ l0_1 false _ ?side1 ?side2 A2.out).mono ?_); (case side1 => repeat (first | exact (Kd.C_below HR0_1.out HB.out) | (with_reducible refine Kd.C_alloc ?_ _) | (with_reducible refine Kd.C_drewN ?_ _) | (with_reducible refine Kd.C_drew ?_))); (case side2 => exact HC0_1.out); rintro e w36 ⟨rfl, hb⟩; refine ⟨_, rfl, ?_⟩; replace BK184 := nk BK184 hb; replace HB := bs hb; (try clear hb)))
  go_ret2
  exact ⟨rs, bw⟩

end Go.Proofs.YtmindeeacfdonaaDoor.PFnExactSureSigns
