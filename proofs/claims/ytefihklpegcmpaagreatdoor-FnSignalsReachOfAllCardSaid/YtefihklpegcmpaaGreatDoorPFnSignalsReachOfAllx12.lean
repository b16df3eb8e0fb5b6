-- Laid by xprint, a program of this session that runs over the kit's print.
import Derived.Test.YtefihklpegcmpaaGreatDoorPFnSignalsReachOfAllx0
import Derived.Test.YtefihklpegcmpaaGreatDoorPFnSignalsReachOfAllx2
import Derived.Test.YtefihklpegcmpaaGreatDoorPFnSignalsReachOfAllx3
import Derived.Test.YtefihklpegcmpaaGreatDoorPFnSignalsReachOfAllx11
namespace Go.Proofs.YtefihklpegcmpaaGreatDoor.PFnSignalsReachOfAll
open Go.RowKit Go.Proofs.YtefihklpegcmpaaGreatDoorW.PrintWords Go.Proofs.YtefihklpegcmpaaGreatDoorW.PrintLast Go.Proofs.YtefihklpegcmpaaGreatDoorW.PrintMore Go.Proofs.YtefihklpegcmpaaGreatDoor.Sq
attribute [local go_sem] max2_int min2_int max_two min_two max_three min_three max_four min_four   -- for this text's walks alone
set_option linter.unusedVariables false
set_option linter.unusedSimpArgs false

/-! ### spec_siText: function 60 -/
def spec_siText.f (k : Nat) (a0_0 : Int) (a0_1 : Bool) (a0_2 : Int) : Option (ByteArray) := if a0_1 = true then ((spec_l1Num.f k a0_0).bind fun t328 => (if t328.size + 1 ≤ 9223372036854775807 then ((spec_l1Num.f k a0_2).bind fun t329 => (if (t328 ++ (⟨#[60]⟩ : ByteArray)).size + t329.size ≤ 9223372036854775807 then (some ((t328 ++ (⟨#[60]⟩ : ByteArray)) ++ t329)) else (none))) else (none))) else ((spec_l1Num.f k a0_0).bind fun t330 => (if t330.size + 1 ≤ 9223372036854775807 then ((spec_l1Num.f k a0_2).bind fun t331 => (if (t330 ++ (⟨#[62]⟩ : ByteArray)).size + t331.size ≤ 9223372036854775807 then (some ((t330 ++ (⟨#[62]⟩ : ByteArray)) ++ t331)) else (none))) else (none)))
theorem spec_siText.mono : ∀ a0 a1 a2 k, LeO (spec_siText.f k a0 a1 a2) (spec_siText.f (k + 1) a0 a1 a2) := by
  intro a0 a1 a2 k
  unfold spec_siText.f
  repeat' first
      | (with_reducible exact spec_l1Num.mono _ _)
      | (with_reducible exact LeO.refl _)
      | (with_reducible exact LeO.none _)
      | (with_reducible refine LeO.ite ?_ ?_)
      | (with_reducible refine LeO.bind ?_ (fun _ => ?_))
      | exact spec_l1Num.mono _ _
      | exact LeO.none _
      | refine LeO.ite ?_ ?_
      | refine LeO.bind ?_ (fun _ => ?_)
def spec_siText.T4 : Bool × List (List Nat × List Nat) := (true, [([], []), ([0], [0]), ([1], [1]), ([], []), ([2, 3], [2, 3]), ([], []), ([5], [5]), ([6, 2], [6]), ([4, 7], [4, 7]), ([8, 7, 0, 1, 2, 3, 4, 5, 6, 7, 8], [8])])
def spec_siText.B4 : List Nat := [0, 1, 3, 0, 15, 0, 32, 103, 255, 511]
theorem spec_siText.tab4 : rtab .any (opsOf Tryz.f60 4) = spec_siText.T4 := by kernel_rfl
theorem spec_siText.bits4 : waitsOk spec_siText.T4.2 spec_siText.B4 = true := by kernel_rfl
set_option maxHeartbeats 8000000 in
set_option maxRecDepth 100000 in
theorem spec_siText.calls (k : Nat) (a0_0 : Int) (a0_1 : Bool) (a0_2 : Int) (r : ByteArray) (w : World) (h : spec_siText.f k a0_0 a0_1 a0_2 = some r) :
  Calls Tryz.prog 60 #[.agg #[.int .i64 a0_0, .bool a0_1, .int .i64 a0_2]] w fun e w' => e = .returned (.string r) ∧ Below w.heap.size w w' := by
 have hu25 := Tryz.underlying25
 have HB := Aside0.mk (Below.refl w.heap.size w)
 unfold spec_siText.f at h
 have H := h
 clear h
 by_cases c2 : a0_1 = true
 ·subst c2
  rw [if_pos rfl] at H
  replace H := Option.bind_eq_some_iff.mp H
  obtain ⟨t328, A30, H⟩ := H
  (try dsimp only at H)
  have A3 := Aside0.mk A30
  clear A30
  by_cases c4 : t328.size + 1 ≤ 9223372036854775807
  ·rw [if_pos c4] at H
   have c4b0 := eq_true c4
   have c4b1 : decide (t328.size + 1 ≤ 9223372036854775807) = true := decide_eq_true c4
   try have c4b2 : (9223372036854775807 < t328.size + 1) = False := eq_false (Nat.not_lt.2 c4)
   replace H := Option.bind_eq_some_iff.mp H
   obtain ⟨t329, A50, H⟩ := H
   (try dsimp only at H)
   have A5 := Aside0.mk A50
   clear A50
   by_cases c6 : (t328 ++ (⟨#[60]⟩ : ByteArray)).size + t329.size ≤ 9223372036854775807
   ·rw [if_pos c6] at H
    have c6b0 := eq_true c6
    have c6b1 : decide ((t328 ++ (⟨#[60]⟩ : ByteArray)).size + t329.size ≤ 9223372036854775807) = true := decide_eq_true c6
    try have c6b2 : (9223372036854775807 < (t328 ++ (⟨#[60]⟩ : ByteArray)).size + t329.size) = False := eq_false (Nat.not_lt.2 c6)
    try have c6b3 : (9223372036854775807 < t328.size + 1 + t329.size) = False := eq_false (by have h9_ := c6; clear H; simp only [ByteArray.size_append, ByteArray.size_extract] at h9_; simp only [eq_iff_iff, iff_true, iff_false] at *; have z9_ : (⟨#[60]⟩ : ByteArray).size = 1 := rfl; omega)
    obtain rfl := Option.some.inj H
    go_enter Tryz.func60, Tryz.ntmps60
    try go_wp2_with (first | ((with_reducible refine gate_dst (N := 1) rfl ?_); refine bx 1 25 #[.int .i64 a0_0, .bool true, .int .i64 a0_2] ?_; intro gb327 hg w7 hbox hb; have BK327 := hbox; have GW327 := gs hg; have GE327 := gs hg; replace HB := bs hb; clear hb hbox hg; have hcz8_0 := bc BK327 0 (.int .i64 a0_0); have hcz8_1 := bc BK327 1 (.bool true); have hcz8_2 := bc BK327 2 (.int .i64 a0_2); have hfz8_0 := blk_frozen BK327.out 0; have hfz8_1 := blk_frozen BK327.out 1; have hfz8_2 := blk_frozen BK327.out 2))
    replace BK327 := Aside0.mk (blk_drew BK327.out)
    replace HB := Aside0.mk (below_drew1 HB.out)
    refine start_ (n := 10) (S := fun w' => w'.cell? ⟨gb327, 0, none⟩ = some (.int .i64 a0_0) ∧ w'.cell? ⟨gb327, 1, none⟩ = some (.bool true) ∧ w'.cell? ⟨gb327, 2, none⟩ = some (.int .i64 a0_2)) (ds := []) (tb 10 0) (by kernel_rfl) rfl rfl ⟨ec BK327, ec BK327, ec BK327⟩ (fun hHeld => ?_); refine with_tabW spec_siText.tab4 spec_siText.bits4 (fun HT_ HW_ => ?_)
    generalize w7.drew = w9 at BK327 HB hHeld ⊢
    refine pu 0 (some 6) (tb 10 1) ?_
    refine pu 3 (some 9) (tb 10 9) ?_
    refine pu 5 (some 11) (tb 10 41) ?_
    refine take_ (i := 1) (N := some 7) (v := ?_) (a' := ?_) (tb 10 43) rfl rfl (take_ofW HT_.out HW_.out (by kernel_rfl)) (fun _ _ _ h => h) (Or.inl ⟨by rfl, ?_⟩) hHeld ?_ ?_
    rotate_left
    ·rintro w' ⟨s0, s1, s2⟩
     go_simp
     with_reducible rfl
    rotate_left
    ·simp only [Act.put, List.setIfInBounds_toArray, List.set_cons_zero, List.set_cons_succ, i64_w, i32_w]
     rfl
    refine take_ (i := 6) (N := some 12) (v := ?_) (a' := ?_) (tb 10 107) rfl rfl (take_ofW HT_.out HW_.out (by kernel_rfl)) (fun _ _ _ h => h) (Or.inl ⟨by rfl, ?_⟩) hHeld ?_ ?_
    rotate_left
    ·rintro w' ⟨s0, s1, s2⟩
     go_simp
     with_reducible rfl
    rotate_left
    ·simp only [Act.put, List.setIfInBounds_toArray, List.set_cons_zero, List.set_cons_succ, i64_w, i32_w]
     rfl
    refine one_ (i := 2) (N := some 8) (tb 10 111) rfl rfl (one_of HT_.out (by kernel_rfl)) (by decide) (fun K hK => ?_)
    refine goes_ Tryz.func74 (by kernel_rfl) rfl #[.int .i64 a0_0] (by rfl) rfl rfl (by (try simp only [List.map_toArray, List.map_cons, List.map_nil]); first | done | rfl | (simp only [List.length_drop, List.length_take]; rfl)) ?_
    with_reducible refine (spec_l1Num.calls k a0_0 t328 _ A3.out).mono ?_
    rintro e w10 ⟨rfl, hb⟩
    refine ⟨_, rfl, ?_⟩
    replace BK327 := nk BK327 hb
    replace HB := bs hb
    (try clear hb)
    refine hK.out _ _ ⟨ec BK327, ec BK327, ec BK327⟩ (fun hHeld => ?_)
    clear hK K
    refine nm (some 8) ?_
    refine pu 4 (some 10) (tb 10 127) ?_
    refine one_ (i := 7) (N := some 13) (tb 10 255) rfl rfl (one_of HT_.out (by kernel_rfl)) (by decide) (fun K hK => ?_)
    refine goes_ Tryz.func74 (by kernel_rfl) rfl #[.int .i64 a0_2] (by rfl) rfl rfl (by (try simp only [List.map_toArray, List.map_cons, List.map_nil]); first | done | rfl | (simp only [List.length_drop, List.length_take]; rfl)) ?_
    with_reducible refine (spec_l1Num.calls k a0_2 t329 _ A5.out).mono ?_
    rintro e w11 ⟨rfl, hb⟩
    refine ⟨_, rfl, ?_⟩
    replace BK327 := nk BK327 hb
    replace HB := bs hb
    (try clear hb)
    refine hK.out _ _ ⟨ec BK327, ec BK327, ec BK327⟩ (fun hHeld => ?_)
    clear hK K
    refine nm (some 13) ?_
    refine pu 8 (some 14) (tb 10 511) ?_
    refine pu 9 (some 2) (tb 10 1023) ?_
    refine done_ (done_of HT_.out (by kernel_rfl)) ?_
    try go_wp2
    go_ret
    exact ⟨rs, bw⟩
   ·rw [if_neg c6] at H
    exact absurd H (by simp)
  ·rw [if_neg c4] at H
   exact absurd H (by simp)
 ·replace c2 := Bool.eq_false_iff.mpr c2
  subst c2
  rw [if_neg (show ¬ (false = true) by decide)] at H
  replace H := Option.bind_eq_some_iff.mp H
  obtain ⟨t330, A120, H⟩ := H
  (try dsimp only at H)
  have A12 := Aside0.mk A120
  clear A120
  by_cases c13 : t330.size + 1 ≤ 9223372036854775807
  ·rw [if_pos c13] at H
   have c13b0 := eq_true c13
   have c13b1 : decide (t330.size + 1 ≤ 9223372036854775807) = true := decide_eq_true c13
   try have c13b2 : (9223372036854775807 < t330.size + 1) = False := eq_false (Nat.not_lt.2 c13)
   replace H := Option.bind_eq_some_iff.mp H
   obtain ⟨t331, A140, H⟩ := H
   (try dsimp only at H)
   have A14 := Aside0.mk A140
   clear A140
   by_cases c15 : (t330 ++ (⟨#[62]⟩ : ByteArray)).size + t331.size ≤ 9223372036854775807
   ·rw [if_pos c15] at H
    have c15b0 := eq_true c15
    have c15b1 : decide ((t330 ++ (⟨#[62]⟩ : ByteArray)).size + t331.size ≤ 9223372036854775807) = true := decide_eq_true c15
    try have c15b2 : (9223372036854775807 < (t330 ++ (⟨#[62]⟩ : ByteArray)).size + t331.size) = False := eq_false (Nat.not_lt.2 c15)
    try have c15b3 : (9223372036854775807 < t330.size + 1 + t331.size) = False := eq_false (by have h9_ := c15; clear H; simp only [ByteArray.size_append, ByteArray.size_extract] at h9_; simp only [eq_iff_iff, iff_true, iff_false] at *; have z9_ : (⟨#[62]⟩ : ByteArray).size = 1 := rfl; omega)
    obtain rfl := Option.some.inj H
    go_enter Tryz.func60, Tryz.ntmps60
    try go_wp2_with (first | ((with_reducible refine gate_dst (N := 1) rfl ?_); refine bx 1 25 #[.int .i64 a0_0, .bool false, .int .i64 a0_2] ?_; intro gb327 hg w16 hbox hb; have BK327 := hbox; have GW327 := gs hg; have GE327 := gs hg; replace HB := bs hb; clear hb hbox hg; have hcz17_0 := bc BK327 0 (.int .i64 a0_0); have hcz17_1 := bc BK327 1 (.bool false); have hcz17_2 := bc BK327 2 (.int .i64 a0_2); have hfz17_0 := blk_frozen BK327.out 0; have hfz17_1 := blk_frozen BK327.out 1; have hfz17_2 := blk_frozen BK327.out 2))
    replace BK327 := Aside0.mk (blk_drew BK327.out)
    replace HB := Aside0.mk (below_drew1 HB.out)
    refine start_ (n := 10) (S := fun w' => w'.cell? ⟨gb327, 0, none⟩ = some (.int .i64 a0_0) ∧ w'.cell? ⟨gb327, 1, none⟩ = some (.bool false) ∧ w'.cell? ⟨gb327, 2, none⟩ = some (.int .i64 a0_2)) (ds := []) (tb 10 0) (by kernel_rfl) rfl rfl ⟨ec BK327, ec BK327, ec BK327⟩ (fun hHeld => ?_); refine with_tabW spec_siText.tab4 spec_siText.bits4 (fun HT_ HW_ => ?_)
    generalize w16.drew = w18 at BK327 HB hHeld ⊢
    refine pu 0 (some 6) (tb 10 1) ?_
    refine pu 3 (some 9) (tb 10 9) ?_
    refine pu 5 (some 11) (tb 10 41) ?_
    refine take_ (i := 1) (N := some 7) (v := ?_) (a' := ?_) (tb 10 43) rfl rfl (take_ofW HT_.out HW_.out (by kernel_rfl)) (fun _ _ _ h => h) (Or.inl ⟨by rfl, ?_⟩) hHeld ?_ ?_
    rotate_left
    ·rintro w' ⟨s0, s1, s2⟩
     go_simp
     with_reducible rfl
    rotate_left
    ·simp only [Act.put, List.setIfInBounds_toArray, List.set_cons_zero, List.set_cons_succ, i64_w, i32_w]
     rfl
    refine take_ (i := 6) (N := some 12) (v := ?_) (a' := ?_) (tb 10 107) rfl rfl (take_ofW HT_.out HW_.out (by kernel_rfl)) (fun _ _ _ h => h) (Or.inl ⟨by rfl, ?_⟩) hHeld ?_ ?_
    rotate_left
    ·rintro w' ⟨s0, s1, s2⟩
     go_simp
     with_reducible rfl
    rotate_left
    ·simp only [Act.put, List.setIfInBounds_toArray, List.set_cons_zero, List.set_cons_succ, i64_w, i32_w]
     rfl
    refine one_ (i := 2) (N := some 8) (tb 10 111) rfl rfl (one_of HT_.out (by kernel_rfl)) (by decide) (fun K hK => ?_)
    refine goes_ Tryz.func74 (by kernel_rfl) rfl #[.int .i64 a0_0] (by rfl) rfl rfl (by (try simp only [List.map_toArray, List.map_cons, List.map_nil]); first | done | rfl | (simp only [List.length_drop, List.length_take]; rfl)) ?_
    with_reducible refine (spec_l1Num.calls k a0_0 t330 _ A12.out).mono ?_
    rintro e w19 ⟨rfl, hb⟩
    refine ⟨_, rfl, ?_⟩
    replace BK327 := nk BK327 hb
    replace HB := bs hb
    (try clear hb)
    refine hK.out _ _ ⟨ec BK327, ec BK327, ec BK327⟩ (fun hHeld => ?_)
    clear hK K
    refine nm (some 8) ?_
    refine pu 4 (some 10) (tb 10 127) ?_
    refine one_ (i := 7) (N := some 13) (tb 10 255) rfl rfl (one_of HT_.out (by kernel_rfl)) (by decide) (fun K hK => ?_)
    refine goes_ Tryz.func74 (by kernel_rfl) rfl #[.int .i64 a0_2] (by rfl) rfl rfl (by (try simp only [List.map_toArray, List.map_cons, List.map_nil]); first | done | rfl | (simp only [List.length_drop, List.length_take]; rfl)) ?_
    with_reducible refine (spec_l1Num.calls k a0_2 t331 _ A14.out).mono ?_
    rintro e w20 ⟨rfl, hb⟩
    refine ⟨_, rfl, ?_⟩
    replace BK327 := nk BK327 hb
    replace HB := bs hb
    (try clear hb)
    refine hK.out _ _ ⟨ec BK327, ec BK327, ec BK327⟩ (fun hHeld => ?_)
    clear hK K
    refine nm (some 13) ?_
    refine pu 8 (some 14) (tb 10 511) ?_
    refine pu 9 (some 2) (tb 10 1023) ?_
    refine done_ (done_of HT_.out (by kernel_rfl)) ?_
    try go_wp2
    go_ret
    exact ⟨rs, bw⟩
   ·rw [if_neg c15] at H
    exact absurd H (by simp)
  ·rw [if_neg c13] at H
   exact absurd H (by simp)

/-! ### spec_SignalText: function 26 -/
def spec_SignalText.f (k : Nat) (a0_0 : Int) (a0_1 : Bool) (a0_2 : Int) : Option (ByteArray × Bool) := (spec_siSignal.f 100 a0_0 a0_1 a0_2).bind fun t333 => (if t333 = true then ((spec_siText.f k a0_0 a0_1 a0_2).bind fun t334 => (some (t334, true))) else (some ((⟨#[]⟩ : ByteArray), false)))
theorem spec_SignalText.mono : ∀ a0 a1 a2 k, LeO (spec_SignalText.f k a0 a1 a2) (spec_SignalText.f (k + 1) a0 a1 a2) := by
  intro a0 a1 a2 k
  unfold spec_SignalText.f
  repeat' first
      | (with_reducible exact spec_siText.mono _ _ _ _)
      | (with_reducible exact LeO.refl _)
      | (with_reducible exact LeO.none _)
      | (with_reducible refine LeO.ite ?_ ?_)
      | (with_reducible refine LeO.bind ?_ (fun _ => ?_))
      | exact spec_siText.mono _ _ _ _
      | exact LeO.none _
      | refine LeO.ite ?_ ?_
      | refine LeO.bind ?_ (fun _ => ?_)
set_option maxHeartbeats 8000000 in
set_option maxRecDepth 100000 in
theorem spec_SignalText.calls (k : Nat) (a0_0 : Int) (a0_1 : Bool) (a0_2 : Int) (r1 : ByteArray) (r2 : Bool) (w : World) (h : spec_SignalText.f k a0_0 a0_1 a0_2 = some (r1, r2)) :
  Calls Tryz.prog 26 #[.agg #[.int .i64 a0_0, .bool a0_1, .int .i64 a0_2]] w fun e w' => e = .returned (.tuple #[.string r1, .bool r2]) ∧ Below w.heap.size w w' := by
 have hu25 := Tryz.underlying25
 have HB := Aside0.mk (Below.refl w.heap.size w)
 unfold spec_SignalText.f at h
 have H := h
 clear h
 replace H := Option.bind_eq_some_iff.mp H
 obtain ⟨t333, A20, H⟩ := H
 (try dsimp only at H)
 have A2 := Aside0.mk A20
 clear A20
 by_cases c3 : t333 = true
 ·subst c3
  rw [if_pos rfl] at H
  replace H := Option.bind_eq_some_iff.mp H
  obtain ⟨t334, A40, H⟩ := H
  (try dsimp only at H)
  have A4 := Aside0.mk A40
  clear A40
  simp only [Option.some.injEq, Prod.mk.injEq] at H
  obtain ⟨rfl, rfl⟩ := H
  go_enter Tryz.func26, Tryz.ntmps26
  go_wp2_with (first | ((with_reducible refine gate_dst (N := 1) rfl ?_); refine bx 1 25 #[.int .i64 a0_0, .bool a0_1, .int .i64 a0_2] ?_; intro gb332 hg w5 hbox hb; have BK332 := hbox; have GW332 := gs hg; have GE332 := gs hg; replace HB := bs hb; clear hb hbox hg; have hcz6_0 := bc BK332 0 (.int .i64 a0_0); have hcz6_1 := bc BK332 1 (.bool a0_1); have hcz6_2 := bc BK332 2 (.int .i64 a0_2); have hfz6_0 := blk_frozen BK332.out 0; have hfz6_1 := blk_frozen BK332.out 1; have hfz6_2 := blk_frozen BK332.out 2) | ((with_reducible refine gate_callee (f := 59) rfl ?_); refine gl (some 5) Tryz.func59 #[.int .i64 100, .agg #[.int .i64 a0_0, .bool a0_1, .int .i64 a0_2]] ?_; (with_reducible refine (spec_siSignal.calls 100 a0_0 a0_1 a0_2 true _ A2.out).mono ?_); rintro e w7 ⟨rfl, hb⟩; refine ⟨_, rfl, ?_⟩; replace BK332 := nk BK332 hb; replace HB := bs hb; (try clear hb); have hcz8_0 := bc BK332 0 (.int .i64 a0_0); have hcz8_1 := bc BK332 1 (.bool a0_1); have hcz8_2 := bc BK332 2 (.int .i64 a0_2); have hfz8_0 := blk_frozen BK332.out 0; have hfz8_1 := blk_frozen BK332.out 1; have hfz8_2 := blk_frozen BK332.out 2) | ((with_reducible refine gate_callee (f := 60) rfl ?_); refine gl (some 8) Tryz.func60 #[.agg #[.int .i64 a0_0, .bool a0_1, .int .i64 a0_2]] ?_; (with_reducible refine (spec_siText.calls k a0_0 a0_1 a0_2 t334 _ A4.out).mono ?_); rintro e w9 ⟨rfl, hb⟩; refine ⟨_, rfl, ?_⟩; replace HB := bs hb; (try clear hb)))
  go_ret2
  exact ⟨rs, bw⟩
 ·replace c3 := Bool.eq_false_iff.mpr c3
  subst c3
  rw [if_neg (show ¬ (false = true) by decide)] at H
  simp only [Option.some.injEq, Prod.mk.injEq] at H
  obtain ⟨rfl, rfl⟩ := H
  go_enter Tryz.func26, Tryz.ntmps26
  go_wp2_with (first | ((with_reducible refine gate_dst (N := 1) rfl ?_); refine bx 1 25 #[.int .i64 a0_0, .bool a0_1, .int .i64 a0_2] ?_; intro gb332 hg w10 hbox hb; have BK332 := hbox; have GW332 := gs hg; have GE332 := gs hg; replace HB := bs hb; clear hb hbox hg; have hcz11_0 := bc BK332 0 (.int .i64 a0_0); have hcz11_1 := bc BK332 1 (.bool a0_1); have hcz11_2 := bc BK332 2 (.int .i64 a0_2); have hfz11_0 := blk_frozen BK332.out 0; have hfz11_1 := blk_frozen BK332.out 1; have hfz11_2 := blk_frozen BK332.out 2) | ((with_reducible refine gate_callee (f := 59) rfl ?_); refine gl (some 5) Tryz.func59 #[.int .i64 100, .agg #[.int .i64 a0_0, .bool a0_1, .int .i64 a0_2]] ?_; (with_reducible refine (spec_siSignal.calls 100 a0_0 a0_1 a0_2 false _ A2.out).mono ?_); rintro e w12 ⟨rfl, hb⟩; refine ⟨_, rfl, ?_⟩; replace HB := bs hb; (try clear hb)))
  go_ret2
  exact ⟨rs, bw⟩

/-! ### strings_IndexAny: function 61 -/
def strings_IndexAny.f (a0 : ByteArray) (a1 : ByteArray) : Option Int := if a0.size < 4294967281 ∧ a1.data.toList = [60, 62] then some (Lib.indexAny a0.data.toList [60, 62]) else none
theorem strings_IndexAny.calls (a0 : ByteArray) (a1 : ByteArray) (r : Int) (w : World) (h : strings_IndexAny.f a0 a1 = some r) :
  Calls Tryz.prog 61 #[.string a0, .string a1] w fun e w' => e = .returned (.int .i64 r) ∧ Below w.heap.size w w' := by
 unfold strings_IndexAny.f at h
 split at h
 ·next hc =>
  obtain rfl := Option.some.inj h
  obtain ⟨h1, h2⟩ := hc
  obtain rfl : a1 = ⟨#[60, 62]⟩ := by
   obtain ⟨⟨l⟩⟩ := a1
   simp only at h2
   rw [h2]
  by_cases h8 : a0.size ≤ 8
  ·have c : Calls Tryz.prog 61 #[.string a0, .string (⟨#[60, 62]⟩ : ByteArray)] w _ := Iw.IndexAny_short_wide Tryz.lays153 a0 w h8
   exact c
  ·have h116 : (Tryz.prog.info? (Tryz.lays153_ren.t 116)).map (fun i => (i.zero, i.size)) = some (some (.agg (Array.replicate 256 (.bool false))), 256) := by kernel_rfl
   have c : Calls Tryz.prog 61 #[.string a0, .string (⟨#[60, 62]⟩ : ByteArray)] w _ := Any.strings_IndexAny_long Tryz.lays153 (zero_of_info h116).1 (zero_of_info h116).2 a0 (⟨#[60, 62]⟩ : ByteArray) w (Nat.le_refl 2) (by omega) h1 (by decide) (fun j b hj => by
    have : j = 0 ∨ j = 1 ∨ 2 ≤ j := by omega
    rcases this with rfl | rfl | h
    ·cases hj; decide
    ·cases hj; decide
    ·rw [List.getElem?_eq_none (by simpa using h)] at hj; cases hj)
   refine c.mono fun e w' ⟨h3, h4⟩ => ⟨h3, ?_⟩
   rw [h4]
   exact ((Below.refl _ _).alloc (Nat.le_refl _) _).alloc (by simp) _
 ·cases h

/-! ### strconv_Atoi: function 62 -/
def strconv_Atoi.f (a0 : ByteArray) : Option (Int × Option Int) := if a0.size ≤ 281474976710656 then (match Lib.atoiAll a0.data.toList with | .ok v => some (v, none) | .range => some (Lib.atoiSat a0.data.toList, some 0) | _ => some (0, some 0)) else none
theorem strconv_Atoi.calls (a0 : ByteArray) (r1 : Int) (r2 : Option Int) (w : World) (hm : Dr.Tab w) (h : strconv_Atoi.f a0 = some (r1, r2)) :
  Calls Tryz.prog 62 #[.string a0] w fun e w' => ∃ q_ : Int, e = .returned (.tuple #[.int .i64 r1, errW (r2.map fun _ => q_)]) ∧ Below w.heap.size w w' := by
 unfold strconv_Atoi.f at h
 split at h
 ·next hs =>
  cases h0 : Lib.atoiAll a0.data.toList
  ·rename_i v
   rw [h0] at h
   simp only [Option.some.injEq, Prod.mk.injEq] at h
   obtain ⟨rfl, rfl⟩ := h
   have c : Calls Tryz.prog 62 #[.string a0] w _ := Any.strconv_Atoi_ok Tryz.laysC172 a0 (by omega) v h0 w
   exact c.mono fun e w' ⟨h1, h2⟩ => ⟨0, h1, by
    rcases h2 with rfl | ⟨t, rfl⟩
    ·exact Below.refl _ _
    ·exact Lib.bytesWorld_below _ _ _⟩
  ·rw [h0] at h
   simp only [Option.some.injEq, Prod.mk.injEq] at h
   obtain ⟨rfl, rfl⟩ := h
   obtain ⟨ev, hv, hev⟩ := hm.synt
   have c : Calls Tryz.prog 62 #[.string a0] w _ := Any.strconv_Atoi_syntax Tryz.laysC172 a0 hs h0 ev w hv hev
   exact c.mono fun e w' ⟨N, h1, _, _, h2⟩ => ⟨(N : Int), h1, h2⟩
  ·rw [h0] at h
   simp only [Option.some.injEq, Prod.mk.injEq] at h
   obtain ⟨rfl, rfl⟩ := h
   obtain ⟨ev, hv, hev⟩ := hm.rang
   have c : Calls Tryz.prog 62 #[.string a0] w _ := Any.strconv_Atoi_range Tryz.laysC172 a0 hs h0 ev w hv hev
   exact c.mono fun e w' ⟨N, h1, _, _, h2⟩ => ⟨(N : Int), h1, h2⟩
 ·cases h

/-! ### impl_ParseSignal: function 27 -/
def impl_ParseSignal.f (a0 : ByteArray) : Option (Int × Bool × Int × Bool) := (strings_IndexAny.f a0 (⟨#[60, 62]⟩ : ByteArray)).bind fun t336 => (if t336 < 0 then (some (0, false, 0, false)) else (if 0 ≤ t336 then (if t336 ≤ (a0.size : Int) then ((strconv_Atoi.f (a0.extract 0 (t336 : Int).toNat)).bind fun bt337 => (if 0 ≤ (wrap64 (t336 + 1)) then (if (wrap64 (t336 + 1)) ≤ (a0.size : Int) then ((strconv_Atoi.f (a0.extract ((wrap64 (t336 + 1)) : Int).toNat a0.size)).bind fun bt339 => (if t336 < (a0.size : Int) then (if bt337.2.isNone = true then (if bt339.2.isNone = true then ((impl_isSignal.f 100 bt337.1 ((bt a0 t336) == 60) bt339.1).bind fun t344 => (if t344 = true then ((impl_signalText.f bt337.1 ((bt a0 t336) == 60) bt339.1).bind fun t345 => (if t345.toList = a0.toList then (some (bt337.1, ((bt a0 t336) == 60), bt339.1, true)) else (some (0, false, 0, false)))) else (some (0, false, 0, false)))) else (some (0, false, 0, false))) else (some (0, false, 0, false))) else (none))) else (none)) else (none))) else (none)) else (none)))
set_option maxHeartbeats 8000000 in
set_option maxRecDepth 100000 in
theorem impl_ParseSignal.calls (a0 : ByteArray) (r1 : Int) (r2 : Bool) (r3 : Int) (r4 : Bool) (w : World) (hm : Dr.Tab w) (h : impl_ParseSignal.f a0 = some (r1, r2, r3, r4)) :
  Calls Tryz.prog 27 #[.string a0] w fun e w' => e = .returned (.tuple #[.agg #[.int .i64 r1, .bool r2, .int .i64 r3], .bool r4]) ∧ Below w.heap.size w w' := by
 have hu25 := Tryz.underlying25
 have hu64 := Tryz.underlying64
 have HB := Aside0.mk (Below.refl w.heap.size w)
 have HMM := Aside0.mk hm
 clear hm
 unfold impl_ParseSignal.f at h
 have H := h
 clear h
 replace H := Option.bind_eq_some_iff.mp H
 obtain ⟨t336, A20, H⟩ := H
 (try dsimp only at H)
 have A2 := Aside0.mk A20
 clear A20
 by_cases c3 : t336 < 0
 ·rw [if_pos c3] at H
  have c3b0 : decide (t336 < 0) = true := decide_eq_true c3
  clear c3
  simp only [Option.some.injEq, Prod.mk.injEq] at H
  obtain ⟨rfl, rfl, rfl, rfl⟩ := H
  go_enter Tryz.func27, Tryz.ntmps27
  go_wp2_with (first | ((with_reducible refine gate_dst (N := 2) rfl ?_); refine bx 2 25 #[.int .i64 0, .bool false, .int .i64 0] ?_; intro gb335 hg w4 hbox hb; have BK335 := hbox; have GW335 := gs hg; have GE335 := gs hg; replace HB := bs hb; clear hb hbox hg) | ((with_reducible refine gate_callee (f := 61) rfl ?_); refine gl (some 11) Tryz.func61 #[.string a0, .string (⟨#[60, 62]⟩ : ByteArray)] ?_; (with_reducible refine (strings_IndexAny.calls a0 (⟨#[60, 62]⟩ : ByteArray) t336 _ A2.out).mono ?_); rintro e w5 ⟨rfl, hb⟩; refine ⟨_, rfl, ?_⟩; replace BK335 := nk BK335 hb; replace HB := bs hb; (try clear hb); have hcz6_0 := bc BK335 0 (.int .i64 0); have hcz6_1 := bc BK335 1 (.bool false); have hcz6_2 := bc BK335 2 (.int .i64 0); have hfz6_0 := blk_frozen BK335.out 0; have hfz6_1 := blk_frozen BK335.out 1; have hfz6_2 := blk_frozen BK335.out 2))
  refine bodyPost_ret (results_ct rfl _ _ gb335 25 #[.int .i64 0, .bool false, .int .i64 0] (0, 0) _ rfl (by (with_reducible repeat (first | refine blk_drewN ?_ _ | refine blk_drew ?_ | refine blk_alloc ?_ _)); refine blk_put (cs := #[.int .i64 0, .bool false, .int .i64 0]) ?_ 2 _ rfl; (with_reducible repeat (first | refine blk_drewN ?_ _ | refine blk_drew ?_ | refine blk_alloc ?_ _)); refine blk_put (cs := #[.int .i64 0, .bool false, .int .i64 0]) ?_ 1 _ rfl; (with_reducible repeat (first | refine blk_drewN ?_ _ | refine blk_drew ?_ | refine blk_alloc ?_ _)); refine blk_put (cs := #[.int .i64 0, .bool false, .int .i64 0]) ?_ 0 _ rfl; (with_reducible repeat (first | refine blk_drewN ?_ _ | refine blk_drew ?_ | refine blk_alloc ?_ _)); exact BK335.out) Tryz.underlying25 rfl (by kernel_rfl)) rfl ?_
  exact ⟨rs, bw⟩
 ·rw [if_neg c3] at H
  have c3b0 : decide (t336 < 0) = false := decide_eq_false c3
  clear c3
  by_cases c7 : 0 ≤ t336
  ·rw [if_pos c7] at H
   have c7b0 := eq_true c7
   have c7b1 : decide (0 ≤ t336) = true := decide_eq_true c7
   clear c7
   by_cases c8 : t336 ≤ (a0.size : Int)
   ·rw [if_pos c8] at H
    have c8b0 := eq_true c8
    have c8b1 : decide (t336 ≤ (a0.size : Int)) = true := decide_eq_true c8
    clear c8
    replace H := Option.bind_eq_some_iff.mp H
    obtain ⟨⟨t337, t338⟩, A90, H⟩ := H
    (try dsimp only at H)
    have A9 := Aside0.mk A90
    clear A90
    obtain ⟨ji10, hji10⟩ : ∃ j_ : Int, (wrap64 (t336 + 1)) = j_ := ⟨_, rfl⟩
    replace H : (if 0 ≤ (ji10) then (if (ji10) ≤ (a0.size : Int) then ((strconv_Atoi.f (a0.extract ((ji10) : Int).toNat a0.size)).bind fun bt339 => (if t336 < (a0.size : Int) then (if t338.isNone = true then (if bt339.2.isNone = true then ((impl_isSignal.f 100 t337 ((bt a0 t336) == 60) bt339.1).bind fun t344 => (if t344 = true then ((impl_signalText.f t337 ((bt a0 t336) == 60) bt339.1).bind fun t345 => (if t345.toList = a0.toList then (some (t337, ((bt a0 t336) == 60), bt339.1, true)) else (some (0, false, 0, false)))) else (some (0, false, 0, false)))) else (some (0, false, 0, false))) else (some (0, false, 0, false))) else (none))) else (none)) else (none)) = some (r1, r2, r3, r4) := by first | (rw [hji10] at H; exact H) | (simp only [hji10] at H ⊢; exact H)
    (try rw [hji10] at A2)
    (try rw [hji10] at A9)
    have hji10w : (IntKind.i64.wrap (t336 + 1)) = ji10 := (i64_w _).trans hji10
    by_cases c11 : 0 ≤ (ji10)
    ·rw [if_pos c11] at H
     have c11b0 := eq_true c11
     have c11b1 : decide (0 ≤ (ji10)) = true := decide_eq_true c11
     clear c11
     by_cases c12 : (ji10) ≤ (a0.size : Int)
     ·rw [if_pos c12] at H
      have c12b0 := eq_true c12
      have c12b1 : decide ((ji10) ≤ (a0.size : Int)) = true := decide_eq_true c12
      clear c12
      replace H := Option.bind_eq_some_iff.mp H
      obtain ⟨⟨t339, t340⟩, A130, H⟩ := H
      (try dsimp only at H)
      have A13 := Aside0.mk A130
      clear A130
      by_cases c14 : t336 < (a0.size : Int)
      ·rw [if_pos c14] at H
       have c14b0 : decide (t336 < (a0.size : Int)) = true := decide_eq_true c14
       clear c14
       rcases t338 with _ | q342
       ·rw [if_pos (show (none : Option Int).isNone = true by rfl)] at H
        try simp only [errW_none, errW_some]
        rcases t340 with _ | q343
        ·rw [if_pos (show (none : Option Int).isNone = true by rfl)] at H
         try simp only [errW_none, errW_some]
         replace H := Option.bind_eq_some_iff.mp H
         obtain ⟨t344, A160, H⟩ := H
         (try dsimp only at H)
         have A16 := Aside0.mk A160
         clear A160
         by_cases c17 : t344 = true
         ·subst c17
          rw [if_pos rfl] at H
          replace H := Option.bind_eq_some_iff.mp H
          obtain ⟨t345, A180, H⟩ := H
          (try dsimp only at H)
          have A18 := Aside0.mk A180
          clear A180
          by_cases c19 : t345.toList = a0.toList
          ·rw [if_pos c19] at H
           have c19b0 : (t345.toList == a0.toList) = true := beq_iff_eq.mpr c19
           have c19b1 : (t345.toList != a0.toList) = false := bne_eq_false_iff_eq.mpr c19
           clear c19
           simp only [Option.some.injEq, Prod.mk.injEq] at H
           obtain ⟨rfl, rfl, rfl, rfl⟩ := H
           go_enter Tryz.func27, Tryz.ntmps27
           go_wp2_with (first | ((with_reducible refine gate_dst (N := 2) rfl ?_); refine bx 2 25 #[.int .i64 0, .bool false, .int .i64 0] ?_; intro gb335 hg w20 hbox hb; have BK335 := hbox; have GW335 := gs hg; have GE335 := gs hg; replace HB := bs hb; clear hb hbox hg) | ((with_reducible refine gate_callee (f := 61) rfl ?_); refine gl (some 11) Tryz.func61 #[.string a0, .string (⟨#[60, 62]⟩ : ByteArray)] ?_; (with_reducible refine (strings_IndexAny.calls a0 (⟨#[60, 62]⟩ : ByteArray) t336 _ A2.out).mono ?_); rintro e w21 ⟨rfl, hb⟩; refine ⟨_, rfl, ?_⟩; replace BK335 := nk BK335 hb; replace HB := bs hb; (try clear hb)) | ((with_reducible refine gate_callee (f := 62) rfl ?_); refine gl (some 19) Tryz.func62 #[.string (a0.extract 0 (t336 : Int).toNat)] ?_; (with_reducible refine (strconv_Atoi.calls (a0.extract 0 (t336 : Int).toNat) t337 none _ ?side1 A9.out).mono ?_); (case side1 => exact Dr.mm HMM); rintro e w22 ⟨q_, rfl, hb⟩; refine ⟨_, rfl, ?_⟩; replace BK335 := nk BK335 hb; replace HB := bs hb; (try clear hb); (try simp only [Option.map_none, Option.map_some, errW_none, errW_some])) | ((with_reducible refine gate_callee (f := 62) rfl ?_); refine goesL_ (some 27) rfl rfl Tryz.func62 (by kernel_rfl) rfl #[.string (a0.extract ((ji10) : Int).toNat a0.size)] rfl (by (try simp only [List.map_toArray, List.map_cons, List.map_nil]); first | done | (simp only [hji10]; rfl) | rfl | (simp only [List.length_drop, List.length_take]; rfl)) ?_; (with_reducible refine (strconv_Atoi.calls (a0.extract ((ji10) : Int).toNat a0.size) t339 none _ ?side1 A13.out).mono ?_); (case side1 => exact Dr.mm HMM); rintro e w23 ⟨q_, rfl, hb⟩; refine ⟨_, rfl, ?_⟩; replace BK335 := nk BK335 hb; replace HB := bs hb; (try clear hb); (try simp only [Option.map_none, Option.map_some, errW_none, errW_some]); have p15 : 0 ≤ (t336 : Int) := of_decide_eq_true (by first | (with_reducible assumption) | assumption); have q15 : t336 < (a0.size : Int) := of_decide_eq_true (by first | (with_reducible assumption) | assumption); have hx15 := bt_at a0 t336; replace p15 := eq_true p15; replace q15 := eq_true q15) | ((with_reducible refine gate_dst (N := 9) rfl ?_); refine bx 9 25 #[.int .i64 0, .bool false, .int .i64 0] ?_; intro gb341 hg w24 hbox hb; have BK341 := hbox; have GW341 := gs hg; have GE341 := gs hg; replace HB := bs hb; have NB335_341 := nl BK335 hg; have NB341_335 := ng BK335 hg; replace BK335 := nk BK335 hb; clear hb hbox hg; have hnb25 := NB341_335.out; have hnc25 := NB335_341.out; have hcz26_0 := bc BK341 0 (.int .i64 0); have hcz26_1 := bc BK341 1 (.bool false); have hcz26_2 := bc BK341 2 (.int .i64 0); have hfz26_0 := blk_frozen BK341.out 0; have hfz26_1 := blk_frozen BK341.out 1; have hfz26_2 := blk_frozen BK341.out 2) | (go_at_call 57; (with_reducible refine (impl_isSignal.calls 100 t337 ((bt a0 t336) == 60) t339 true _ A16.out).mono ?_); rintro e w27 ⟨rfl, hb⟩; replace BK335 := Aside0.mk (blk_below (g := gb335) (o := .cells #[.int .i64 0, .bool false, .int .i64 0] 25) (by (refine blk_far ?_ (Aside0.out (by assumption)) _; refine blk_far ?_ (Aside0.out (by assumption)) _; refine blk_far ?_ (Aside0.out (by assumption)) _; exact BK335.out)) hb); replace BK341 := Aside0.mk (blk_below (g := gb341) (o := .cells #[.int .i64 t337, .bool ((bt a0 t336) == 60), .int .i64 t339] 25 (0, 0)) (by (with_reducible repeat (first | refine blk_drewN ?_ _ | refine blk_drew ?_ | refine blk_alloc ?_ _)); refine blk_put (cs := #[.int .i64 t337, .bool ((bt a0 t336) == 60), .int .i64 0]) ?_ 2 _ rfl; (with_reducible repeat (first | refine blk_drewN ?_ _ | refine blk_drew ?_ | refine blk_alloc ?_ _)); refine blk_put (cs := #[.int .i64 t337, .bool false, .int .i64 0]) ?_ 1 _ rfl; (with_reducible repeat (first | refine blk_drewN ?_ _ | refine blk_drew ?_ | refine blk_alloc ?_ _)); refine blk_put (cs := #[.int .i64 0, .bool false, .int .i64 0]) ?_ 0 _ rfl; (with_reducible repeat (first | refine blk_drewN ?_ _ | refine blk_drew ?_ | refine blk_alloc ?_ _)); exact BK341.out) hb); replace HB := bs hb; (try clear hb); have hcz28_0 := bc BK341 0 (.int .i64 t337); have hcz28_1 := bc BK341 1 (.bool ((bt a0 t336) == 60)); have hcz28_2 := bc BK341 2 (.int .i64 t339); have hfz28_0 := blk_frozen BK341.out 0; have hfz28_1 := blk_frozen BK341.out 1; have hfz28_2 := blk_frozen BK341.out 2) | (go_at_call 58; (with_reducible refine (impl_signalText.calls t337 ((bt a0 t336) == 60) t339 t345 _ A18.out).mono ?_); rintro e w29 ⟨rfl, hb⟩; replace BK335 := nk BK335 hb; replace BK341 := nk BK341 hb; replace HB := bs hb; (try clear hb); have hcz30_0 := bc BK341 0 (.int .i64 t337); have hcz30_1 := bc BK341 1 (.bool ((bt a0 t336) == 60)); have hcz30_2 := bc BK341 2 (.int .i64 t339); have hfz30_0 := blk_frozen BK341.out 0; have hfz30_1 := blk_frozen BK341.out 1; have hfz30_2 := blk_frozen BK341.out 2; have hcz31_0 := bc BK335 0 (.int .i64 0); have hcz31_1 := bc BK335 1 (.bool false); have hcz31_2 := bc BK335 2 (.int .i64 0); have hfz31_0 := blk_frozen BK335.out 0; have hfz31_1 := blk_frozen BK335.out 1; have hfz31_2 := blk_frozen BK335.out 2))
           refine bodyPost_ret (results_ct rfl _ _ gb335 25 #[.int .i64 t337, .bool ((bt a0 t336) == 60), .int .i64 t339] (0, 0) _ rfl (by (with_reducible repeat (first | refine blk_drewN ?_ _ | refine blk_drew ?_ | refine blk_alloc ?_ _)); refine blk_put (cs := #[.int .i64 t337, .bool ((bt a0 t336) == 60), .int .i64 0]) ?_ 2 _ rfl; (with_reducible repeat (first | refine blk_drewN ?_ _ | refine blk_drew ?_ | refine blk_alloc ?_ _)); refine blk_put (cs := #[.int .i64 t337, .bool false, .int .i64 0]) ?_ 1 _ rfl; (with_reducible repeat (first | refine blk_drewN ?_ _ | refine blk_drew ?_ | refine blk_alloc ?_ _)); refine blk_put (cs := #[.int .i64 0, .bool false, .int .i64 0]) ?_ 0 _ rfl; (with_reducible repeat (first | refine blk_drewN ?_ _ | refine blk_drew ?_ | refine blk_alloc ?_ _)); exact BK335.out) Tryz.underlying25 rfl (by kernel_rfl)) rfl ?_
           exact ⟨by first | rfl | (simp [errW_none, errW_some] <;> rfl) | (simp only [← hji10]; first | rfl | (simp [errW_none, errW_some] <;> rfl)) | (simp [*, errW_none, errW_some] <;> rfl), bw⟩
          ·rw [if_neg c19] at H
           have c19b0 : (t345.toList == a0.toList) = false := beq_eq_false_iff_ne.mpr c19
           have c19b1 : (t345.toList != a0.toList) = true := bne_iff_ne.mpr c19
           simp only [Option.some.injEq, Prod.mk.injEq] at H
           obtain ⟨rfl, rfl, rfl, rfl⟩ := H
           go_enter Tryz.func27, Tryz.ntmps27
           go_wp2_with (first | ((with_reducible refine gate_dst (N := 2) rfl ?_); refine bx 2 25 #[.int .i64 0, .bool false, .int .i64 0] ?_; intro gb335 hg w32 hbox hb; have BK335 := hbox; have GW335 := gs hg; have GE335 := gs hg; replace HB := bs hb; clear hb hbox hg) | ((with_reducible refine gate_callee (f := 61) rfl ?_); refine gl (some 11) Tryz.func61 #[.string a0, .string (⟨#[60, 62]⟩ : ByteArray)] ?_; (with_reducible refine (strings_IndexAny.calls a0 (⟨#[60, 62]⟩ : ByteArray) t336 _ A2.out).mono ?_); rintro e w33 ⟨rfl, hb⟩; refine ⟨_, rfl, ?_⟩; replace BK335 := nk BK335 hb; replace HB := bs hb; (try clear hb)) | ((with_reducible refine gate_callee (f := 62) rfl ?_); refine gl (some 19) Tryz.func62 #[.string (a0.extract 0 (t336 : Int).toNat)] ?_; (with_reducible refine (strconv_Atoi.calls (a0.extract 0 (t336 : Int).toNat) t337 none _ ?side1 A9.out).mono ?_); (case side1 => exact Dr.mm HMM); rintro e w34 ⟨q_, rfl, hb⟩; refine ⟨_, rfl, ?_⟩; replace BK335 := nk BK335 hb; replace HB := bs hb; (try clear hb); (try simp only [Option.map_none, Option.map_some, errW_none, errW_some])) | ((with_reducible refine gate_callee (f := 62) rfl ?_); refine goesL_ (some 27) rfl rfl Tryz.func62 (by kernel_rfl) rfl #[.string (a0.extract ((ji10) : Int).toNat a0.size)] rfl (by (try simp only [List.map_toArray, List.map_cons, List.map_nil]); first | done | (simp only [hji10]; rfl) | rfl | (simp only [List.length_drop, List.length_take]; rfl)) ?_; (with_reducible refine (strconv_Atoi.calls (a0.extract ((ji10) : Int).toNat a0.size) t339 none _ ?side1 A13.out).mono ?_); (case side1 => exact Dr.mm HMM); rintro e w35 ⟨q_, rfl, hb⟩; refine ⟨_, rfl, ?_⟩; replace BK335 := nk BK335 hb; replace HB := bs hb; (try clear hb); (try simp only [Option.map_none, Option.map_some, errW_none, errW_some]); have p15 : 0 ≤ (t336 : Int) := of_decide_eq_true (by first | (with_reducible assumption) | assumption); have q15 : t336 < (a0.size : Int) := of_decide_eq_true (by first | (with_reducible assumption) | assumption); have hx15 := bt_at a0 t336; replace p15 := eq_true p15; replace q15 := eq_true q15) | ((with_reducible refine gate_dst (N := 9) rfl ?_); refine bx 9 25 #[.int .i64 0, .bool false, .int .i64 0] ?_; intro gb341 hg w36 hbox hb; have BK341 := hbox; have GW341 := gs hg; have GE341 := gs hg; replace HB := bs hb; have NB335_341 := nl BK335 hg; have NB341_335 := ng BK335 hg; replace BK335 := nk BK335 hb; clear hb hbox hg; have hnb37 := NB341_335.out; have hnc37 := NB335_341.out; have hcz38_0 := bc BK341 0 (.int .i64 0); have hcz38_1 := bc BK341 1 (.bool false); have hcz38_2 := bc BK341 2 (.int .i64 0); have hfz38_0 := blk_frozen BK341.out 0; have hfz38_1 := blk_frozen BK341.out 1; have hfz38_2 := blk_frozen BK341.out 2) | (go_at_call 57; (with_reducible refine (impl_isSignal.calls 100 t337 ((bt a0 t336) == 60) t339 true _ A16.out).mono ?_); rintro e w39 ⟨rfl, hb⟩; replace BK335 := Aside0.mk (blk_below (g := gb335) (o := .cells #[.int .i64 0, .bool false, .int .i64 0] 25) (by (refine blk_far ?_ (Aside0.out (by assumption)) _; refine blk_far ?_ (Aside0.out (by assumption)) _; refine blk_far ?_ (Aside0.out (by assumption)) _; exact BK335.out)) hb); replace BK341 := Aside0.mk (blk_below (g := gb341) (o := .cells #[.int .i64 t337, .bool ((bt a0 t336) == 60), .int .i64 t339] 25 (0, 0)) (by (with_reducible repeat (first | refine blk_drewN ?_ _ | refine blk_drew ?_ | refine blk_alloc ?_ _)); refine blk_put (cs := #[.int .i64 t337, .bool ((bt a0 t336) == 60), .int .i64 0]) ?_ 2 _ rfl; (with_reducible repeat (first | refine blk_drewN ?_ _ | refine blk_drew ?_ | refine blk_alloc ?_ _)); refine blk_put (cs := #[.int .i64 t337, .bool false, .int .i64 0]) ?_ 1 _ rfl; (with_reducible repeat (first | refine blk_drewN ?_ _ | refine blk_drew ?_ | refine blk_alloc ?_ _)); refine blk_put (cs := #[.int .i64 0, .bool false, .int .i64 0]) ?_ 0 _ rfl; (with_reducible repeat (first | refine blk_drewN ?_ _ | refine blk_drew ?_ | refine blk_alloc ?_ _)); exact BK341.out) hb); replace HB := bs hb; (try clear hb); have hcz40_0 := bc BK341 0 (.int .i64 t337); have hcz40_1 := bc BK341 1 (.bool ((bt a0 t336) == 60)); have hcz40_2 := bc BK341 2 (.int .i64 t339); have hfz40_0 := blk_frozen BK341.out 0; have hfz40_1 := blk_frozen BK341.out 1; have hfz40_2 := blk_frozen BK341.out 2) | (go_at_call 58; (with_reducible refine (impl_signalText.calls t337 ((bt a0 t336) == 60) t339 t345 _ A18.out).mono ?_); rintro e w41 ⟨rfl, hb⟩; replace BK335 := nk BK335 hb; replace HB := bs hb; (try clear hb); have hcz42_0 := bc BK335 0 (.int .i64 0); have hcz42_1 := bc BK335 1 (.bool false); have hcz42_2 := bc BK335 2 (.int .i64 0); have hfz42_0 := blk_frozen BK335.out 0; have hfz42_1 := blk_frozen BK335.out 1; have hfz42_2 := blk_frozen BK335.out 2))
           refine bodyPost_ret (results_ct rfl _ _ gb335 25 #[.int .i64 0, .bool false, .int .i64 0] (0, 0) _ rfl (by (with_reducible repeat (first | refine blk_drewN ?_ _ | refine blk_drew ?_ | refine blk_alloc ?_ _)); refine blk_put (cs := #[.int .i64 0, .bool false, .int .i64 0]) ?_ 2 _ rfl; (with_reducible repeat (first | refine blk_drewN ?_ _ | refine blk_drew ?_ | refine blk_alloc ?_ _)); refine blk_put (cs := #[.int .i64 0, .bool false, .int .i64 0]) ?_ 1 _ rfl; (with_reducible repeat (first | refine blk_drewN ?_ _ | refine blk_drew ?_ | refine blk_alloc ?_ _)); refine blk_put (cs := #[.int .i64 0, .bool false, .int .i64 0]) ?_ 0 _ rfl; (with_reducible repeat (first | refine blk_drewN ?_ _ | refine blk_drew ?_ | refine blk_alloc ?_ _)); exact BK335.out) Tryz.underlying25 rfl (by kernel_rfl)) rfl ?_
           exact ⟨by first | rfl | (simp [errW_none, errW_some] <;> rfl) | (simp only [← hji10]; first | rfl | (simp [errW_none, errW_some] <;> rfl)) | (simp [*, errW_none, errW_some] <;> rfl), bw⟩
         ·replace c17 := Bool.eq_false_iff.mpr c17
          subst c17
          rw [if_neg (show ¬ (false = true) by decide)] at H
          simp only [Option.some.injEq, Prod.mk.injEq] at H
          obtain ⟨rfl, rfl, rfl, rfl⟩ := H
          go_enter Tryz.func27, Tryz.ntmps27
          go_wp2_with (first | ((with_reducible refine gate_dst (N := 2) rfl ?_); refine bx 2 25 #[.int .i64 0, .bool false, .int .i64 0] ?_; intro gb335 hg w43 hbox hb; have BK335 := hbox; have GW335 := gs hg; have GE335 := gs hg; replace HB := bs hb; clear hb hbox hg) | ((with_reducible refine gate_callee (f := 61) rfl ?_); refine gl (some 11) Tryz.func61 #[.string a0, .string (⟨#[60, 62]⟩ : ByteArray)] ?_; (with_reducible refine (strings_IndexAny.calls a0 (⟨#[60, 62]⟩ : ByteArray) t336 _ A2.out).mono ?_); rintro e w44 ⟨rfl, hb⟩; refine ⟨_, rfl, ?_⟩; replace BK335 := nk BK335 hb; replace HB := bs hb; (try clear hb)) | ((with_reducible refine gate_callee (f := 62) rfl ?_); refine gl (some 19) Tryz.func62 #[.string (a0.extract 0 (t336 : Int).toNat)] ?_; (with_reducible refine (strconv_Atoi.calls (a0.extract 0 (t336 : Int).toNat) t337 none _ ?side1 A9.out).mono ?_); (case side1 => exact Dr.mm HMM); rintro e w45 ⟨q_, rfl, hb⟩; refine ⟨_, rfl, ?_⟩; replace BK335 := nk BK335 hb; replace HB := bs hb; (try clear hb); (try simp only [Option.map_none, Option.map_some, errW_none, errW_some])) | ((with_reducible refine gate_callee (f := 62) rfl ?_); refine goesL_ (some 27) rfl rfl Tryz.func62 (by kernel_rfl) rfl #[.string (a0.extract ((ji10) : Int).toNat a0.size)] rfl (by (try simp only [List.map_toArray, List.map_cons, List.map_nil]); first | done | (simp only [hji10]; rfl) | rfl | (simp only [List.length_drop, List.length_take]; rfl)) ?_; (with_reducible refine (strconv_Atoi.calls (a0.extract ((ji10) : Int).toNat a0.size) t339 none _ ?side1 A13.out).mono ?_); (case side1 => exact Dr.mm HMM); rintro e w46 ⟨q_, rfl, hb⟩; refine ⟨_, rfl, ?_⟩; replace BK335 := nk BK335 hb; replace HB := bs hb; (try clear hb); (try simp only [Option.map_none, Option.map_some, errW_none, errW_some]); have p15 : 0 ≤ (t336 : Int) := of_decide_eq_true (by first | (with_reducible assumption) | assumption); have q15 : t336 < (a0.size : Int) := of_decide_eq_true (by first | (with_reducible assumption) | assumption); have hx15 := bt_at a0 t336; replace p15 := eq_true p15; replace q15 := eq_true q15) | ((with_reducible refine gate_dst (N := 9) rfl ?_); refine bx 9 25 #[.int .i64 0, .bool false, .int .i64 0] ?_; intro gb341 hg w47 hbox hb; have BK341 := hbox; have GW341 := gs hg; have GE341 := gs hg; replace HB := bs hb; have NB335_341 := nl BK335 hg; have NB341_335 := ng BK335 hg; replace BK335 := nk BK335 hb; clear hb hbox hg; have hnb48 := NB341_335.out; have hnc48 := NB335_341.out; have hcz49_0 := bc BK341 0 (.int .i64 0); have hcz49_1 := bc BK341 1 (.bool false); have hcz49_2 := bc BK341 2 (.int .i64 0); have hfz49_0 := blk_frozen BK341.out 0; have hfz49_1 := blk_frozen BK341.out 1; have hfz49_2 := blk_frozen BK341.out 2) | (go_at_call 57; (with_reducible refine (impl_isSignal.calls 100 t337 ((bt a0 t336) == 60) t339 false _ A16.out).mono ?_); rintro e w50 ⟨rfl, hb⟩; replace BK335 := Aside0.mk (blk_below (g := gb335) (o := .cells #[.int .i64 0, .bool false, .int .i64 0] 25) (by (refine blk_far ?_ (Aside0.out (by assumption)) _; refine blk_far ?_ (Aside0.out (by assumption)) _; refine blk_far ?_ (Aside0.out (by assumption)) _; exact BK335.out)) hb); replace BK341 := Aside0.mk (blk_below (g := gb341) (o := .cells #[.int .i64 t337, .bool ((bt a0 t336) == 60), .int .i64 t339] 25 (0, 0)) (by (with_reducible repeat (first | refine blk_drewN ?_ _ | refine blk_drew ?_ | refine blk_alloc ?_ _)); refine blk_put (cs := #[.int .i64 t337, .bool ((bt a0 t336) == 60), .int .i64 0]) ?_ 2 _ rfl; (with_reducible repeat (first | refine blk_drewN ?_ _ | refine blk_drew ?_ | refine blk_alloc ?_ _)); refine blk_put (cs := #[.int .i64 t337, .bool false, .int .i64 0]) ?_ 1 _ rfl; (with_reducible repeat (first | refine blk_drewN ?_ _ | refine blk_drew ?_ | refine blk_alloc ?_ _)); refine blk_put (cs := #[.int .i64 0, .bool false, .int .i64 0]) ?_ 0 _ rfl; (with_reducible repeat (first | refine blk_drewN ?_ _ | refine blk_drew ?_ | refine blk_alloc ?_ _)); exact BK341.out) hb); replace HB := bs hb; (try clear hb); have hcz51_0 := bc BK335 0 (.int .i64 0); have hcz51_1 := bc BK335 1 (.bool false); have hcz51_2 := bc BK335 2 (.int .i64 0); have hfz51_0 := blk_frozen BK335.out 0; have hfz51_1 := blk_frozen BK335.out 1; have hfz51_2 := blk_frozen BK335.out 2))
          refine bodyPost_ret (results_ct rfl _ _ gb335 25 #[.int .i64 0, .bool false, .int .i64 0] (0, 0) _ rfl (by (with_reducible repeat (first | refine blk_drewN ?_ _ | refine blk_drew ?_ | refine blk_alloc ?_ _)); refine blk_put (cs := #[.int .i64 0, .bool false, .int .i64 0]) ?_ 2 _ rfl; (with_reducible repeat (first | refine blk_drewN ?_ _ | refine blk_drew ?_ | refine blk_alloc ?_ _)); refine blk_put (cs := #[.int .i64 0, .bool false, .int .i64 0]) ?_ 1 _ rfl; (with_reducible repeat (first | refine blk_drewN ?_ _ | refine blk_drew ?_ | refine blk_alloc ?_ _)); refine blk_put (cs := #[.int .i64 0, .bool false, .int .i64 0]) ?_ 0 _ rfl; (with_reducible repeat (first | refine blk_drewN ?_ _ | refine blk_drew ?_ | refine blk_alloc ?_ _)); exact BK335.out) Tryz.underlying25 rfl (by kernel_rfl)) rfl ?_
          exact ⟨by first | rfl | (simp [errW_none, errW_some] <;> rfl) | (simp only [← hji10]; first | rfl | (simp [errW_none, errW_some] <;> rfl)) | (simp [*, errW_none, errW_some] <;> rfl), bw⟩
        ·rw [if_neg (show ¬ (some q343).isNone = true by simp)] at H
         try simp only [errW_none, errW_some]
         simp only [Option.some.injEq, Prod.mk.injEq] at H
         obtain ⟨rfl, rfl, rfl, rfl⟩ := H
         go_enter Tryz.func27, Tryz.ntmps27
         go_wp2_with (first | ((with_reducible refine gate_dst (N := 2) rfl ?_); refine bx 2 25 #[.int .i64 0, .bool false, .int .i64 0] ?_; intro gb335 hg w52 hbox hb; have BK335 := hbox; have GW335 := gs hg; have GE335 := gs hg; replace HB := bs hb; clear hb hbox hg) | ((with_reducible refine gate_callee (f := 61) rfl ?_); refine gl (some 11) Tryz.func61 #[.string a0, .string (⟨#[60, 62]⟩ : ByteArray)] ?_; (with_reducible refine (strings_IndexAny.calls a0 (⟨#[60, 62]⟩ : ByteArray) t336 _ A2.out).mono ?_); rintro e w53 ⟨rfl, hb⟩; refine ⟨_, rfl, ?_⟩; replace BK335 := nk BK335 hb; replace HB := bs hb; (try clear hb)) | ((with_reducible refine gate_callee (f := 62) rfl ?_); refine gl (some 19) Tryz.func62 #[.string (a0.extract 0 (t336 : Int).toNat)] ?_; (with_reducible refine (strconv_Atoi.calls (a0.extract 0 (t336 : Int).toNat) t337 none _ ?side1 A9.out).mono ?_); (case side1 => exact Dr.mm HMM); rintro e w54 ⟨q_, rfl, hb⟩; refine ⟨_, rfl, ?_⟩; replace BK335 := nk BK335 hb; replace HB := bs hb; (try clear hb); (try simp only [Option.map_none, Option.map_some, errW_none, errW_some])) | ((with_reducible refine gate_callee (f := 62) rfl ?_); refine goesL_ (some 27) rfl rfl Tryz.func62 (by kernel_rfl) rfl #[.string (a0.extract ((ji10) : Int).toNat a0.size)] rfl (by (try simp only [List.map_toArray, List.map_cons, List.map_nil]); first | done | (simp only [hji10]; rfl) | rfl | (simp only [List.length_drop, List.length_take]; rfl)) ?_; (with_reducible refine (strconv_Atoi.calls (a0.extract ((ji10) : Int).toNat a0.size) t339 (some q343) _ ?side1 A13.out).mono ?_); (case side1 => exact Dr.mm HMM); rintro e w55 ⟨q_, rfl, hb⟩; refine ⟨_, rfl, ?_⟩; replace BK335 := nk BK335 hb; replace HB := bs hb; (try clear hb); (try simp only [Option.map_none, Option.map_some, errW_none, errW_some]); have p15 : 0 ≤ (t336 : Int) := of_decide_eq_true (by first | (with_reducible assumption) | assumption); have q15 : t336 < (a0.size : Int) := of_decide_eq_true (by first | (with_reducible assumption) | assumption); have hx15 := bt_at a0 t336; replace p15 := eq_true p15; replace q15 := eq_true q15) | ((with_reducible refine gate_dst (N := 9) rfl ?_); refine bx 9 25 #[.int .i64 0, .bool false, .int .i64 0] ?_; intro gb341 hg w56 hbox hb; have BK341 := hbox; have GW341 := gs hg; have GE341 := gs hg; replace HB := bs hb; have NB335_341 := nl BK335 hg; have NB341_335 := ng BK335 hg; replace BK335 := nk BK335 hb; clear hb hbox hg; have hnb57 := NB341_335.out; have hnc57 := NB335_341.out; have hcz58_0 := bc BK341 0 (.int .i64 0); have hcz58_1 := bc BK341 1 (.bool false); have hcz58_2 := bc BK341 2 (.int .i64 0); have hfz58_0 := blk_frozen BK341.out 0; have hfz58_1 := blk_frozen BK341.out 1; have hfz58_2 := blk_frozen BK341.out 2; have hcz59_0 := bc BK335 0 (.int .i64 0); have hcz59_1 := bc BK335 1 (.bool false); have hcz59_2 := bc BK335 2 (.int .i64 0); have hfz59_0 := blk_frozen BK335.out 0; have hfz59_1 := blk_frozen BK335.out 1; have hfz59_2 := blk_frozen BK335.out 2))
         refine bodyPost_ret (results_ct rfl _ _ gb335 25 #[.int .i64 0, .bool false, .int .i64 0] (0, 0) _ rfl (by (with_reducible repeat (first | refine blk_drewN ?_ _ | refine blk_drew ?_ | refine blk_alloc ?_ _)); refine blk_put (cs := #[.int .i64 0, .bool false, .int .i64 0]) ?_ 2 _ rfl; (with_reducible repeat (first | refine blk_drewN ?_ _ | refine blk_drew ?_ | refine blk_alloc ?_ _)); refine blk_put (cs := #[.int .i64 0, .bool false, .int .i64 0]) ?_ 1 _ rfl; (with_reducible repeat (first | refine blk_drewN ?_ _ | refine blk_drew ?_ | refine blk_alloc ?_ _)); refine blk_put (cs := #[.int .i64 0, .bool false, .int .i64 0]) ?_ 0 _ rfl; (with_reducible repeat (first | refine blk_drewN ?_ _ | refine blk_drew ?_ | refine blk_alloc ?_ _)); refine blk_far ?_ NB335_341.out _; (with_reducible repeat (first | refine blk_drewN ?_ _ | refine blk_drew ?_ | refine blk_alloc ?_ _)); refine blk_far ?_ NB335_341.out _; (with_reducible repeat (first | refine blk_drewN ?_ _ | refine blk_drew ?_ | refine blk_alloc ?_ _)); refine blk_far ?_ NB335_341.out _; (with_reducible repeat (first | refine blk_drewN ?_ _ | refine blk_drew ?_ | refine blk_alloc ?_ _)); exact BK335.out) Tryz.underlying25 rfl (by kernel_rfl)) rfl ?_
         exact ⟨by first | rfl | (simp [errW_none, errW_some] <;> rfl) | (simp only [← hji10]; first | rfl | (simp [errW_none, errW_some] <;> rfl)) | (simp [*, errW_none, errW_some] <;> rfl), bw⟩
       ·rw [if_neg (show ¬ (some q342).isNone = true by simp)] at H
        try simp only [errW_none, errW_some]
        simp only [Option.some.injEq, Prod.mk.injEq] at H
        obtain ⟨rfl, rfl, rfl, rfl⟩ := H
        go_enter Tryz.func27, Tryz.ntmps27
        go_wp2_with (first | ((with_reducible refine gate_dst (N := 2) rfl ?_); refine bx 2 25 #[.int .i64 0, .bool false, .int .i64 0] ?_; intro gb335 hg w60 hbox hb; have BK335 := hbox; have GW335 := gs hg; have GE335 := gs hg; replace HB := bs hb; clear hb hbox hg) | ((with_reducible refine gate_callee (f := 61) rfl ?_); refine gl (some 11) Tryz.func61 #[.string a0, .string (⟨#[60, 62]⟩ : ByteArray)] ?_; (with_reducible refine (strings_IndexAny.calls a0 (⟨#[60, 62]⟩ : ByteArray) t336 _ A2.out).mono ?_); rintro e w61 ⟨rfl, hb⟩; refine ⟨_, rfl, ?_⟩; replace BK335 := nk BK335 hb; replace HB := bs hb; (try clear hb)) | ((with_reducible refine gate_callee (f := 62) rfl ?_); refine gl (some 19) Tryz.func62 #[.string (a0.extract 0 (t336 : Int).toNat)] ?_; (with_reducible refine (strconv_Atoi.calls (a0.extract 0 (t336 : Int).toNat) t337 (some q342) _ ?side1 A9.out).mono ?_); (case side1 => exact Dr.mm HMM); rintro e w62 ⟨q_, rfl, hb⟩; refine ⟨_, rfl, ?_⟩; replace BK335 := nk BK335 hb; replace HB := bs hb; (try clear hb); (try simp only [Option.map_none, Option.map_some, errW_none, errW_some])) | ((with_reducible refine gate_callee (f := 62) rfl ?_); refine goesL_ (some 27) rfl rfl Tryz.func62 (by kernel_rfl) rfl #[.string (a0.extract ((ji10) : Int).toNat a0.size)] rfl (by (try simp only [List.map_toArray, List.map_cons, List.map_nil]); first | done | (simp only [hji10]; rfl) | rfl | (simp only [List.length_drop, List.length_take]; rfl)) ?_; (with_reducible refine (strconv_Atoi.calls (a0.extract ((ji10) : Int).toNat a0.size) t339 t340 _ ?side1 A13.out).mono ?_); (case side1 => exact Dr.mm HMM); rintro e w63 ⟨q_, rfl, hb⟩; refine ⟨_, rfl, ?_⟩; replace BK335 := nk BK335 hb; replace HB := bs hb; (try clear hb); (try simp only [Option.map_none, Option.map_some, errW_none, errW_some]); have p15 : 0 ≤ (t336 : Int) := of_decide_eq_true (by first | (with_reducible assumption) | assumption); have q15 : t336 < (a0.size : Int) := of_decide_eq_true (by first | (with_reducible assumption) | assumption); have hx15 := bt_at a0 t336; replace p15 := eq_true p15; replace q15 := eq_true q15) | ((with_reducible refine gate_dst (N := 9) rfl ?_); refine bx 9 25 #[.int .i64 0, .bool false, .int .i64 0] ?_; intro gb341 hg w64 hbox hb; have BK341 := hbox; have GW341 := gs hg; have GE341 := gs hg; replace HB := bs hb; have NB335_341 := nl BK335 hg; have NB341_335 := ng BK335 hg; replace BK335 := nk BK335 hb; clear hb hbox hg; have hnb65 := NB341_335.out; have hnc65 := NB335_341.out; have hcz66_0 := bc BK341 0 (.int .i64 0); have hcz66_1 := bc BK341 1 (.bool false); have hcz66_2 := bc BK341 2 (.int .i64 0); have hfz66_0 := blk_frozen BK341.out 0; have hfz66_1 := blk_frozen BK341.out 1; have hfz66_2 := blk_frozen BK341.out 2; have hcz67_0 := bc BK335 0 (.int .i64 0); have hcz67_1 := bc BK335 1 (.bool false); have hcz67_2 := bc BK335 2 (.int .i64 0); have hfz67_0 := blk_frozen BK335.out 0; have hfz67_1 := blk_frozen BK335.out 1; have hfz67_2 := blk_frozen BK335.out 2))
        refine bodyPost_ret (results_ct rfl _ _ gb335 25 #[.int .i64 0, .bool false, .int .i64 0] (0, 0) _ rfl (by (with_reducible repeat (first | refine blk_drewN ?_ _ | refine blk_drew ?_ | refine blk_alloc ?_ _)); refine blk_put (cs := #[.int .i64 0, .bool false, .int .i64 0]) ?_ 2 _ rfl; (with_reducible repeat (first | refine blk_drewN ?_ _ | refine blk_drew ?_ | refine blk_alloc ?_ _)); refine blk_put (cs := #[.int .i64 0, .bool false, .int .i64 0]) ?_ 1 _ rfl; (with_reducible repeat (first | refine blk_drewN ?_ _ | refine blk_drew ?_ | refine blk_alloc ?_ _)); refine blk_put (cs := #[.int .i64 0, .bool false, .int .i64 0]) ?_ 0 _ rfl; (with_reducible repeat (first | refine blk_drewN ?_ _ | refine blk_drew ?_ | refine blk_alloc ?_ _)); refine blk_far ?_ NB335_341.out _; (with_reducible repeat (first | refine blk_drewN ?_ _ | refine blk_drew ?_ | refine blk_alloc ?_ _)); refine blk_far ?_ NB335_341.out _; (with_reducible repeat (first | refine blk_drewN ?_ _ | refine blk_drew ?_ | refine blk_alloc ?_ _)); refine blk_far ?_ NB335_341.out _; (with_reducible repeat (first | refine blk_drewN ?_ _ | refine blk_drew ?_ | refine blk_alloc ?_ _)); exact BK335.out) Tryz.underlying25 rfl (by kernel_rfl)) rfl ?_
        exact ⟨by first | rfl | (simp [errW_none, errW_some] <;> rfl) | (simp only [← hji10]; first | rfl | (simp [errW_none, errW_some] <;> rfl)) | (simp [*, errW_none, errW_some] <;> rfl), bw⟩
      ·rw [if_neg c14] at H
       exact absurd H (by simp)
     ·rw [if_neg c12] at H
      exact absurd H (by simp)
    ·rw [if_neg c11] at H
     exact absurd H (by simp)
   ·rw [if_neg c8] at H
    exact absurd H (by simp)
  ·rw [if_neg c7] at H
   exact absurd H (by simp)

/-! ### spec_l1Read: function 63 -/
mutual
def spec_l1Read.j0 : Nat → ByteArray → Bool → Option (Int)
  | 0, _, _ => none
  | k + 1, x0, x18 => if x18 = true then (some (-1)) else (spec_l1Read.l0 k x0 0 0)
def spec_l1Read.l0 : Nat → ByteArray → Int → Int → Option (Int)
  | 0, _, _, _ => none
  | k + 1, x0, x3, x4 => if x4 < (x0.size : Int) then (if 0 ≤ x4 then (if (bt x0 x4) < 48 then (some (-1)) else (if (bt x0 x4) > 57 then (some (-1)) else (spec_l1Read.l0 k x0 (wrap64 ((wrap64 (10 * x3)) + (((bt x0 x4) - 48) % 256))) (wrap64 (x4 + 1))))) else (none)) else (some x3)
end
def spec_l1Read.f (k : Nat) (a0 : ByteArray) : Option (Int) := (spec_l1In.f (a0.size : Int) 1 6).bind fun t346 => (if t346 = true then (if 0 < (a0.size : Int) then (if (bt a0 0) = 48 then (spec_l1Read.j0 k a0 (decide ((a0.size : Int) > 1))) else (spec_l1Read.j0 k a0 false)) else (none)) else (spec_l1Read.j0 k a0 true))
theorem spec_l1Read.mono_l : ∀ k, (∀ y0 y1, LeO (spec_l1Read.j0 k y0 y1) (spec_l1Read.j0 (k + 1) y0 y1)) ∧ (∀ y0 y1 y2, LeO (spec_l1Read.l0 k y0 y1 y2) (spec_l1Read.l0 (k + 1) y0 y1 y2))
  | 0 => ⟨fun _ _ r h => by simp [spec_l1Read.j0] at h, fun _ _ _ r h => by simp [spec_l1Read.l0] at h⟩
  | k + 1 => by
    obtain ⟨ih0, ih1⟩ := spec_l1Read.mono_l k
    refine ⟨?_, ?_⟩
    · intro y0 y1
      unfold spec_l1Read.j0
      repeat' first
      | (with_reducible exact ih0 _ _)
      | (with_reducible exact ih1 _ _ _)
      | (with_reducible exact LeO.refl _)
      | (with_reducible exact LeO.none _)
      | (with_reducible refine LeO.ite ?_ ?_)
      | (with_reducible refine LeO.bind ?_ (fun _ => ?_))
      | exact ih0 _ _
      | exact ih1 _ _ _
      | exact LeO.none _
      | refine LeO.ite ?_ ?_
      | refine LeO.bind ?_ (fun _ => ?_)
    · intro y0 y1 y2
      unfold spec_l1Read.l0
      repeat' first
      | (with_reducible exact ih0 _ _)
      | (with_reducible exact ih1 _ _ _)
      | (with_reducible exact LeO.refl _)
      | (with_reducible exact LeO.none _)
      | (with_reducible refine LeO.ite ?_ ?_)
      | (with_reducible refine LeO.bind ?_ (fun _ => ?_))
      | exact ih0 _ _
      | exact ih1 _ _ _
      | exact LeO.none _
      | refine LeO.ite ?_ ?_
      | refine LeO.bind ?_ (fun _ => ?_)
theorem spec_l1Read.mono : ∀ a0 k, LeO (spec_l1Read.f k a0) (spec_l1Read.f (k + 1) a0) := by
  intro a0 k
  obtain ⟨ih0, ih1⟩ := spec_l1Read.mono_l k
  unfold spec_l1Read.f
  repeat' first
      | (with_reducible exact ih0 _ _)
      | (with_reducible exact ih1 _ _ _)
      | (with_reducible exact LeO.refl _)
      | (with_reducible exact LeO.none _)
      | (with_reducible refine LeO.ite ?_ ?_)
      | (with_reducible refine LeO.bind ?_ (fun _ => ?_))
      | exact ih0 _ _
      | exact ih1 _ _ _
      | exact LeO.none _
      | refine LeO.ite ?_ ?_
      | refine LeO.bind ?_ (fun _ => ?_)
set_option maxHeartbeats 8000000 in
set_option maxRecDepth 100000 in
theorem spec_l1Read.calls (k : Nat) (a0 : ByteArray) (r : Int) (w : World) (h : spec_l1Read.f k a0 = some r) :
  Calls Tryz.prog 63 #[.string a0] w fun e w' => e = .returned (.int .i64 r) ∧ Drawn0 w w' := by
 unfold spec_l1Read.f at h
 have H := h
 clear h
 have HC2 := Aside0.mk H
 clear H
 go_enter Tryz.func63, Tryz.ntmps63
 go_upto_region 1 with (fail)
 go_cut [18] (fun v18 wc => ∃ (kq : Nat) (x18_1 : Bool), v18 = .bool x18_1 ∧ Aside0 (spec_l1Read.j0 kq a0 x18_1 = some r) ∧ Aside0 (kq ≤ k) ∧ Drawn0 w wc)
 case first =>
  have H := HC2.out
  clear HC2
  replace H := Option.bind_eq_some_iff.mp H
  obtain ⟨t346, A30, H⟩ := H
  (try dsimp only at H)
  have A3 := Aside0.mk A30
  clear A30
  by_cases c4 : t346 = true
  ·subst c4
   rw [if_pos rfl] at H
   by_cases c5 : 0 < (a0.size : Int)
   ·rw [if_pos c5] at H
    have c5b0 : decide (0 < (a0.size : Int)) = true := decide_eq_true c5
    have c5b1 : decide (0 < a0.size) = true := decide_eq_true (by omega)
    clear c5
    (first | rw [c5b0] | rw [@decide_eq_true _ _ (of_decide_eq_true c5b1)] | rw [@decide_eq_false _ _ (of_decide_eq_false c5b1)] | (simp only [i64_w, i32_w]; rw [c5b0]) | skip)
    by_cases c7 : (bt a0 0) = 48
    ·rw [if_pos c7] at H
     have c7b0 : ((bt a0 0) == 48) = true := beq_iff_eq.mpr c7
     have c7b1 : ((bt a0 0) != 48) = false := bne_eq_false_iff_eq.mpr c7
     clear c7
     have H' := Aside0.mk H
     clear H
     go_wp2_with (first | ((with_reducible refine gate_callee (f := 48) rfl ?_); refine gl (some 7) Tryz.func48 #[.int .i64 (a0.size : Int), .int .i64 1, .int .i64 6] ?_; (with_reducible refine (spec_l1In.calls (a0.size : Int) 1 6 true _ A3.out).mono ?_); rintro e w' ⟨rfl, ⟨nd, rfl⟩⟩; refine ⟨_, rfl, ?_⟩; have p6 : 0 ≤ (0 : Int) := (by omega); have q6 : 0 < a0.size := (by have : (0 : Int) < (a0.size : Int) := of_decide_eq_true (by first | (with_reducible assumption) | assumption); omega); have hx6 : ∀ h : 0 < a0.size, ((a0[0]'h).toNat : Int) = bt a0 0 := bt_at a0 0; clear p6; have qi6 : (0 < (a0.size : Int)) = True := eq_true (of_decide_eq_true (by first | (with_reducible assumption) | assumption)); replace q6 := eq_true q6))
     go_meet
     case rel => exact ⟨_, (decide ((a0.size : Int) > 1)), (rs), H', ⟨by first | omega | exact Nat.le_refl _⟩, by repeat (first | exact Drawn0.refl _ | apply Drawn0.step)⟩
    ·rw [if_neg c7] at H
     have c7b0 : ((bt a0 0) == 48) = false := beq_eq_false_iff_ne.mpr c7
     have c7b1 : ((bt a0 0) != 48) = true := bne_iff_ne.mpr c7
     have H' := Aside0.mk H
     clear H
     go_wp2_with (first | ((with_reducible refine gate_callee (f := 48) rfl ?_); refine gl (some 7) Tryz.func48 #[.int .i64 (a0.size : Int), .int .i64 1, .int .i64 6] ?_; (with_reducible refine (spec_l1In.calls (a0.size : Int) 1 6 true _ A3.out).mono ?_); rintro e w' ⟨rfl, ⟨nd, rfl⟩⟩; refine ⟨_, rfl, ?_⟩; have p6 : 0 ≤ (0 : Int) := (by omega); have q6 : 0 < a0.size := (by have : (0 : Int) < (a0.size : Int) := of_decide_eq_true (by first | (with_reducible assumption) | assumption); omega); have hx6 : ∀ h : 0 < a0.size, ((a0[0]'h).toNat : Int) = bt a0 0 := bt_at a0 0; clear p6; have qi6 : (0 < (a0.size : Int)) = True := eq_true (of_decide_eq_true (by first | (with_reducible assumption) | assumption)); replace q6 := eq_true q6))
     go_meet
     case rel => exact ⟨_, (false), (rs), H', ⟨by first | omega | exact Nat.le_refl _⟩, by repeat (first | exact Drawn0.refl _ | apply Drawn0.step)⟩
   ·rw [if_neg c5] at H
    exact absurd H (by simp)
  ·replace c4 := Bool.eq_false_iff.mpr c4
   subst c4
   rw [if_neg (show ¬ (false = true) by decide)] at H
   have H' := Aside0.mk H
   clear H
   go_wp2_with (first | ((with_reducible refine gate_callee (f := 48) rfl ?_); refine gl (some 7) Tryz.func48 #[.int .i64 (a0.size : Int), .int .i64 1, .int .i64 6] ?_; (with_reducible refine (spec_l1In.calls (a0.size : Int) 1 6 false _ A3.out).mono ?_); rintro e w' ⟨rfl, ⟨nd, rfl⟩⟩; refine ⟨_, rfl, ?_⟩))
   go_meet
   case rel => exact ⟨_, (true), (rs), H', ⟨by first | omega | exact Nat.le_refl _⟩, by repeat (first | exact Drawn0.refl _ | apply Drawn0.step)⟩
 case rest =>
  clear HC2
  try clear p2
  try clear c4
  try clear c5
  try clear c5b0
  try clear c5b1
  try clear c6
  try clear p6
  try clear q6
  try clear hx6
  try clear qi6
  try clear c7
  try clear c7b0
  try clear c7b1
  try clear p6
  try clear q6
  obtain ⟨kq, x18_1, rfl, HA, HJ1, ⟨mc1, rfl⟩⟩ := hcut
  cases kq with
  | zero => exact absurd HA.out (by simp [spec_l1Read.j0])
  | succ kj1 =>
   have H := HA.out
   clear HA
   simp only [spec_l1Read.j0] at H
   by_cases c8 : x18_1 = true
   ·subst c8
    rw [if_pos rfl] at H
    obtain rfl := Option.some.inj H
    go_wp2
    go_ret
    exact ⟨rs, by repeat (first | exact Drawn0.refl _ | apply Drawn0.step)⟩
   ·replace c8 := Bool.eq_false_iff.mpr c8
    subst c8
    rw [if_neg (show ¬ (false = true) by decide)] at H
    have H' := Aside0.mk H
    clear H
    go_wp2
    go_loopg [3, 4] kj1 (fun kq v3 v4 w' => ∃ (x3_2 : Int) (x4_2 : Int), v3 = .int .i64 x3_2 ∧ v4 = .int .i64 x4_2 ∧ Aside0 (spec_l1Read.l0 kq a0 x3_2 x4_2 = some r) ∧ Aside0 (kq ≤ kj1) ∧ Drawn0 w w')
    case atStart => exact ⟨(0), (0), (rs), (rs), H', ⟨Nat.le_refl _⟩, by repeat (first | exact Drawn0.refl _ | apply Drawn0.step)⟩
    case round =>
     clear H'
     try clear c1
     try clear p2
     try clear c4
     try clear c5
     try clear c5b0
     try clear c5b1
     try clear c6
     try clear p6
     try clear q6
     try clear hx6
     try clear qi6
     try clear c7
     try clear c7b0
     try clear c7b1
     try clear c8
     try clear p2
     try clear p6
     try clear q6
     obtain ⟨x3_2, x4_2, rfl, rfl, HA, HK2, ⟨m2, rfl⟩⟩ := hrel
     cases gk with
     | zero => exact absurd HA.out (by simp [spec_l1Read.l0])
     | succ k2 =>
      have H := HA.out
      clear HA
      simp only [spec_l1Read.l0] at H
      by_cases c9 : x4_2 < (a0.size : Int)
      ·rw [if_pos c9] at H
       have c9b0 : decide (x4_2 < (a0.size : Int)) = true := decide_eq_true c9
       clear c9
       by_cases c10 : 0 ≤ x4_2
       ·rw [if_pos c10] at H
        have c10b0 : decide (0 ≤ x4_2) = true := decide_eq_true c10
        clear c10
        by_cases c12 : (bt a0 x4_2) < 48
        ·rw [if_pos c12] at H
         have c12b0 : decide ((bt a0 x4_2) < 48) = true := decide_eq_true c12
         clear c12
         obtain rfl := Option.some.inj H
         have p11 : 0 ≤ (x4_2 : Int) := of_decide_eq_true (by first | (with_reducible assumption) | assumption)
         have q11 : x4_2 < (a0.size : Int) := of_decide_eq_true (by first | (with_reducible assumption) | assumption)
         have hx11 := bt_at a0 x4_2
         replace p11 := eq_true p11
         replace q11 := eq_true q11
         go_wp2
         go_ret
         exact ⟨rs, by repeat (first | exact Drawn0.refl _ | apply Drawn0.step)⟩
        ·rw [if_neg c12] at H
         have c12b0 : decide ((bt a0 x4_2) < 48) = false := decide_eq_false c12
         clear c12
         by_cases c14 : (bt a0 x4_2) > 57
         ·rw [if_pos c14] at H
          have c14b0 : decide (57 < (bt a0 x4_2)) = true := decide_eq_true c14
          clear c14
          obtain rfl := Option.some.inj H
          have p11 : 0 ≤ (x4_2 : Int) := of_decide_eq_true (by first | (with_reducible assumption) | assumption)
          have q11 : x4_2 < (a0.size : Int) := of_decide_eq_true (by first | (with_reducible assumption) | assumption)
          have hx11 := bt_at a0 x4_2
          replace p11 := eq_true p11
          replace q11 := eq_true q11
          have p13 : 0 ≤ (x4_2 : Int) := of_decide_eq_true (by first | (with_reducible assumption) | assumption)
          have q13 : x4_2 < (a0.size : Int) := of_decide_eq_true (by first | (with_reducible assumption) | assumption)
          have hx13 := bt_at a0 x4_2
          replace p13 := eq_true p13
          replace q13 := eq_true q13
          go_wp2
          go_ret
          exact ⟨rs, by repeat (first | exact Drawn0.refl _ | apply Drawn0.step)⟩
         ·rw [if_neg c14] at H
          have c14b0 : decide (57 < (bt a0 x4_2)) = false := decide_eq_false c14
          clear c14
          have H' := Aside0.mk H
          clear H
          have p11 : 0 ≤ (x4_2 : Int) := of_decide_eq_true (by first | (with_reducible assumption) | assumption)
          have q11 : x4_2 < (a0.size : Int) := of_decide_eq_true (by first | (with_reducible assumption) | assumption)
          have hx11 := bt_at a0 x4_2
          replace p11 := eq_true p11
          replace q11 := eq_true q11
          have p13 : 0 ≤ (x4_2 : Int) := of_decide_eq_true (by first | (with_reducible assumption) | assumption)
          have q13 : x4_2 < (a0.size : Int) := of_decide_eq_true (by first | (with_reducible assumption) | assumption)
          have hx13 := bt_at a0 x4_2
          replace p13 := eq_true p13
          replace q13 := eq_true q13
          have p15 : 0 ≤ (x4_2 : Int) := of_decide_eq_true (by first | (with_reducible assumption) | assumption)
          have q15 : x4_2 < (a0.size : Int) := of_decide_eq_true (by first | (with_reducible assumption) | assumption)
          have hx15 := bt_at a0 x4_2
          replace p15 := eq_true p15
          replace q15 := eq_true q15
          go_wp2
          go_roundg k2
          case measure => have := HJ1.out; have := HK2.out; omega
          case rel => exact ⟨(wrap64 ((wrap64 (10 * x3_2)) + (((bt a0 x4_2) - 48) % 256))), (wrap64 (x4_2 + 1)), (rs), (rs), H', ⟨by have := HJ1.out; have := HK2.out; omega⟩, by repeat (first | exact Drawn0.refl _ | apply Drawn0.step)⟩
       ·rw [if_neg c10] at H
        exact absurd H (by simp)
      ·rw [if_neg c9] at H
       have c9b0 : decide (x4_2 < (a0.size : Int)) = false := decide_eq_false c9
       clear c9
       obtain rfl := Option.some.inj H
       go_wp2
       go_ret
       exact ⟨rs, by repeat (first | exact Drawn0.refl _ | apply Drawn0.step)⟩

end Go.Proofs.YtefihklpegcmpaaGreatDoor.PFnSignalsReachOfAll
