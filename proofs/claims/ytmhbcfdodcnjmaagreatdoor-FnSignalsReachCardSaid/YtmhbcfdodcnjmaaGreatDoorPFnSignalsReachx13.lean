-- Laid by xprint, a program of this session that runs over the kit's print.
import Derived.Test.YtmhbcfdodcnjmaaGreatDoorPFnSignalsReachx0
import Derived.Test.YtmhbcfdodcnjmaaGreatDoorPFnSignalsReachx2
import Derived.Test.YtmhbcfdodcnjmaaGreatDoorPFnSignalsReachx4
import Derived.Test.YtmhbcfdodcnjmaaGreatDoorPFnSignalsReachx12
namespace Go.Proofs.YtmhbcfdodcnjmaaGreatDoor.PFnSignalsReach
open Go.RowKit Go.Proofs.YtmhbcfdodcnjmaaGreatDoorW.PrintWords Go.Proofs.YtmhbcfdodcnjmaaGreatDoorW.PrintLast Go.Proofs.YtmhbcfdodcnjmaaGreatDoorW.PrintMore Go.Proofs.YtmhbcfdodcnjmaaGreatDoor.Sq
attribute [local go_sem] max2_int min2_int max_two min_two max_three min_three max_four min_four   -- for this text's walks alone
set_option linter.unusedVariables false
set_option linter.unusedSimpArgs false

/-! ### spec_siText: function 73 -/
def spec_siText.f (k : Nat) (a0_0 : Int) (a0_1 : Bool) (a0_2 : Int) : Option (ByteArray) := if a0_1 = true then ((spec_l1Num.f k a0_0).bind fun t510 => (if t510.size + 1 ≤ 9223372036854775807 then ((spec_l1Num.f k a0_2).bind fun t511 => (if (t510 ++ (⟨#[60]⟩ : ByteArray)).size + t511.size ≤ 9223372036854775807 then (some ((t510 ++ (⟨#[60]⟩ : ByteArray)) ++ t511)) else (none))) else (none))) else ((spec_l1Num.f k a0_0).bind fun t512 => (if t512.size + 1 ≤ 9223372036854775807 then ((spec_l1Num.f k a0_2).bind fun t513 => (if (t512 ++ (⟨#[62]⟩ : ByteArray)).size + t513.size ≤ 9223372036854775807 then (some ((t512 ++ (⟨#[62]⟩ : ByteArray)) ++ t513)) else (none))) else (none)))
theorem spec_siText.mono : ∀ a0 a1 a2 k, LeO (spec_siText.f k a0 a1 a2) (spec_siText.f (k + 1) a0 a1 a2) := by
  intro a0 a1 a2 k
  unfold spec_siText.f
  repeat' first
      | (with_reducible exact spec_l1Num.mono _ _)
      | (with_reducible exact LeO.refl _)
      | (with_reducible exact LeO.none _)
      | (with_reducible refine LeO.ite ?_ ?_)
      | (with_reducible refine LeO.bind ?_ (fun _ => ?_))
      | exact spec_l1Num.mono _ _
      | exact LeO.none _
      | refine LeO.ite ?_ ?_
      | refine LeO.bind ?_ (fun _ => ?_)
def spec_siText.T4 : Bool × List (List Nat × List Nat) := (true, [([], []), ([0], [0]), ([1], [1]), ([], []), ([2, 3], [2, 3]), ([], []), ([5], [5]), ([6, 2], [6]), ([4, 7], [4, 7]), ([8, 7, 0, 1, 2, 3, 4, 5, 6, 7, 8], [8])])
def spec_siText.B4 : List Nat := [0, 1, 3, 0, 15, 0, 32, 103, 255, 511]
theorem spec_siText.tab4 : rtab .any (opsOf Tryz.f73 4) = spec_siText.T4 := by kernel_rfl
theorem spec_siText.bits4 : waitsOk spec_siText.T4.2 spec_siText.B4 = true := by kernel_rfl
set_option maxHeartbeats 8000000 in
set_option maxRecDepth 100000 in
theorem spec_siText.calls (k : Nat) (a0_0 : Int) (a0_1 : Bool) (a0_2 : Int) (r : ByteArray) (w : World) (h : spec_siText.f k a0_0 a0_1 a0_2 = some r) :
  Calls Tryz.prog 73 #[.agg #[.int .i64 a0_0, .bool a0_1, .int .i64 a0_2]] w fun e w' => e = .returned (.string r) ∧ Below w.heap.size w w' := by
 have hu36 := Tryz.underlying36
 have HB := Aside0.mk (Below.refl w.heap.size w)
 unfold spec_siText.f at h
 have H := h
 clear h
 by_cases c2 : a0_1 = true
 ·subst c2
  rw [if_pos rfl] at H
  replace H := Option.bind_eq_some_iff.mp H
  obtain ⟨t510, A30, H⟩ := H
  (try dsimp only at H)
  have A3 := Aside0.mk A30
  clear A30
  by_cases c4 : t510.size + 1 ≤ 9223372036854775807
  ·rw [if_pos c4] at H
   have c4b0 := eq_true c4
   have c4b1 : decide (t510.size + 1 ≤ 9223372036854775807) = true := decide_eq_true c4
   try have c4b2 : (9223372036854775807 < t510.size + 1) = False := eq_false (Nat.not_lt.2 c4)
   replace H := Option.bind_eq_some_iff.mp H
   obtain ⟨t511, A50, H⟩ := H
   (try dsimp only at H)
   have A5 := Aside0.mk A50
   clear A50
   by_cases c6 : (t510 ++ (⟨#[60]⟩ : ByteArray)).size + t511.size ≤ 9223372036854775807
   ·rw [if_pos c6] at H
    have c6b0 := eq_true c6
    have c6b1 : decide ((t510 ++ (⟨#[60]⟩ : ByteArray)).size + t511.size ≤ 9223372036854775807) = true := decide_eq_true c6
    try have c6b2 : (9223372036854775807 < (t510 ++ (⟨#[60]⟩ : ByteArray)).size + t511.size) = False := eq_false (Nat.not_lt.2 c6)
    try have c6b3 : (9223372036854775807 < t510.size + 1 + t511.size) = False := eq_false (by have h9_ := c6; clear H; simp only [ByteArray.size_append, ByteArray.size_extract] at h9_; simp only [eq_iff_iff, iff_true, iff_false] at *; have z9_ : (⟨#[60]⟩ : ByteArray).size = 1 := rfl; omega)
    obtain rfl := Option.some.inj H
    go_enter Tryz.func73, Tryz.ntmps73
    try go_wp2_with (first | ((with_reducible refine gate_dst (N := 1) rfl ?_); refine bx 1 36 #[.int .i64 a0_0, .bool true, .int .i64 a0_2] ?_; intro gb509 hg w7 hbox hb; have BK509 := hbox; have GW509 := gs hg; have GE509 := gs hg; replace HB := bs hb; clear hb hbox hg; have hcz8_0 := bc BK509 0 (.int .i64 a0_0); have hcz8_1 := bc BK509 1 (.bool true); have hcz8_2 := bc BK509 2 (.int .i64 a0_2); have hfz8_0 := blk_frozen BK509.out 0; have hfz8_1 := blk_frozen BK509.out 1; have hfz8_2 := blk_frozen BK509.out 2))
    replace BK509 := Aside0.mk (blk_drew BK509.out)
    replace HB := Aside0.mk (below_drew1 HB.out)
    refine start_ (n := 10) (S := fun w' => w'.cell? ⟨gb509, 0, none⟩ = some (.int .i64 a0_0) ∧ w'.cell? ⟨gb509, 1, none⟩ = some (.bool true) ∧ w'.cell? ⟨gb509, 2, none⟩ = some (.int .i64 a0_2)) (ds := []) (tb 10 0) (by kernel_rfl) rfl rfl ⟨ec BK509, ec BK509, ec BK509⟩ (fun hHeld => ?_); refine with_tabW spec_siText.tab4 spec_siText.bits4 (fun HT_ HW_ => ?_)
    generalize w7.drew = w9 at BK509 HB hHeld ⊢
    refine pu 0 (some 6) (tb 10 1) ?_
    refine pu 3 (some 9) (tb 10 9) ?_
    refine pu 5 (some 11) (tb 10 41) ?_
    refine take_ (i := 1) (N := some 7) (v := ?_) (a' := ?_) (tb 10 43) rfl rfl (take_ofW HT_.out HW_.out (by kernel_rfl)) (fun _ _ _ h => h) (Or.inl ⟨by rfl, ?_⟩) hHeld ?_ ?_
    rotate_left
    ·rintro w' ⟨s0, s1, s2⟩
     go_simp
     with_reducible rfl
    rotate_left
    ·simp only [Act.put, List.setIfInBounds_toArray, List.set_cons_zero, List.set_cons_succ, i64_w, i32_w]
     rfl
    refine take_ (i := 6) (N := some 12) (v := ?_) (a' := ?_) (tb 10 107) rfl rfl (take_ofW HT_.out HW_.out (by kernel_rfl)) (fun _ _ _ h => h) (Or.inl ⟨by rfl, ?_⟩) hHeld ?_ ?_
    rotate_left
    ·rintro w' ⟨s0, s1, s2⟩
     go_simp
     with_reducible rfl
    rotate_left
    ·simp only [Act.put, List.setIfInBounds_toArray, List.set_cons_zero, List.set_cons_succ, i64_w, i32_w]
     rfl
    refine one_ (i := 2) (N := some 8) (tb 10 111) rfl rfl (one_of HT_.out (by kernel_rfl)) (by decide) (fun K hK => ?_)
    refine goes_ Tryz.func91 (by kernel_rfl) rfl #[.int .i64 a0_0] (by rfl) rfl rfl (by (try simp only [List.map_toArray, List.map_cons, List.map_nil]); first | done | rfl | (simp only [List.length_drop, List.length_take]; rfl)) ?_
    with_reducible refine (spec_l1Num.calls k a0_0 t510 _ A3.out).mono ?_
    rintro e w10 ⟨rfl, hb⟩
    refine ⟨_, rfl, ?_⟩
    replace BK509 := nk BK509 hb
    replace HB := bs hb
    (try clear hb)
    refine hK.out _ _ ⟨ec BK509, ec BK509, ec BK509⟩ (fun hHeld => ?_)
    clear hK K
    refine nm (some 8) ?_
    refine pu 4 (some 10) (tb 10 127) ?_
    refine one_ (i := 7) (N := some 13) (tb 10 255) rfl rfl (one_of HT_.out (by kernel_rfl)) (by decide) (fun K hK => ?_)
    refine goes_ Tryz.func91 (by kernel_rfl) rfl #[.int .i64 a0_2] (by rfl) rfl rfl (by (try simp only [List.map_toArray, List.map_cons, List.map_nil]); first | done | rfl | (simp only [List.length_drop, List.length_take]; rfl)) ?_
    with_reducible refine (spec_l1Num.calls k a0_2 t511 _ A5.out).mono ?_
    rintro e w11 ⟨rfl, hb⟩
    refine ⟨_, rfl, ?_⟩
    replace BK509 := nk BK509 hb
    replace HB := bs hb
    (try clear hb)
    refine hK.out _ _ ⟨ec BK509, ec BK509, ec BK509⟩ (fun hHeld => ?_)
    clear hK K
    refine nm (some 13) ?_
    refine pu 8 (some 14) (tb 10 511) ?_
    refine pu 9 (some 2) (tb 10 1023) ?_
    refine done_ (done_of HT_.out (by kernel_rfl)) ?_
    try go_wp2
    go_ret
    exact ⟨rs, bw⟩
   ·rw [if_neg c6] at H
    exact absurd H (by simp)
  ·rw [if_neg c4] at H
   exact absurd H (by simp)
 ·replace c2 := Bool.eq_false_iff.mpr c2
  subst c2
  rw [if_neg (show ¬ (false = true) by decide)] at H
  replace H := Option.bind_eq_some_iff.mp H
  obtain ⟨t512, A120, H⟩ := H
  (try dsimp only at H)
  have A12 := Aside0.mk A120
  clear A120
  by_cases c13 : t512.size + 1 ≤ 9223372036854775807
  ·rw [if_pos c13] at H
   have c13b0 := eq_true c13
   have c13b1 : decide (t512.size + 1 ≤ 9223372036854775807) = true := decide_eq_true c13
   try have c13b2 : (9223372036854775807 < t512.size + 1) = False := eq_false (Nat.not_lt.2 c13)
   replace H := Option.bind_eq_some_iff.mp H
   obtain ⟨t513, A140, H⟩ := H
   (try dsimp only at H)
   have A14 := Aside0.mk A140
   clear A140
   by_cases c15 : (t512 ++ (⟨#[62]⟩ : ByteArray)).size + t513.size ≤ 9223372036854775807
   ·rw [if_pos c15] at H
    have c15b0 := eq_true c15
    have c15b1 : decide ((t512 ++ (⟨#[62]⟩ : ByteArray)).size + t513.size ≤ 9223372036854775807) = true := decide_eq_true c15
    try have c15b2 : (9223372036854775807 < (t512 ++ (⟨#[62]⟩ : ByteArray)).size + t513.size) = False := eq_false (Nat.not_lt.2 c15)
    try have c15b3 : (9223372036854775807 < t512.size + 1 + t513.size) = False := eq_false (by have h9_ := c15; clear H; simp only [ByteArray.size_append, ByteArray.size_extract] at h9_; simp only [eq_iff_iff, iff_true, iff_false] at *; have z9_ : (⟨#[62]⟩ : ByteArray).size = 1 := rfl; omega)
    obtain rfl := Option.some.inj H
    go_enter Tryz.func73, Tryz.ntmps73
    try go_wp2_with (first | ((with_reducible refine gate_dst (N := 1) rfl ?_); refine bx 1 36 #[.int .i64 a0_0, .bool false, .int .i64 a0_2] ?_; intro gb509 hg w16 hbox hb; have BK509 := hbox; have GW509 := gs hg; have GE509 := gs hg; replace HB := bs hb; clear hb hbox hg; have hcz17_0 := bc BK509 0 (.int .i64 a0_0); have hcz17_1 := bc BK509 1 (.bool false); have hcz17_2 := bc BK509 2 (.int .i64 a0_2); have hfz17_0 := blk_frozen BK509.out 0; have hfz17_1 := blk_frozen BK509.out 1; have hfz17_2 := blk_frozen BK509.out 2))
    replace BK509 := Aside0.mk (blk_drew BK509.out)
    replace HB := Aside0.mk (below_drew1 HB.out)
    refine start_ (n := 10) (S := fun w' => w'.cell? ⟨gb509, 0, none⟩ = some (.int .i64 a0_0) ∧ w'.cell? ⟨gb509, 1, none⟩ = some (.bool false) ∧ w'.cell? ⟨gb509, 2, none⟩ = some (.int .i64 a0_2)) (ds := []) (tb 10 0) (by kernel_rfl) rfl rfl ⟨ec BK509, ec BK509, ec BK509⟩ (fun hHeld => ?_); refine with_tabW spec_siText.tab4 spec_siText.bits4 (fun HT_ HW_ => ?_)
    generalize w16.drew = w18 at BK509 HB hHeld ⊢
    refine pu 0 (some 6) (tb 10 1) ?_
    refine pu 3 (some 9) (tb 10 9) ?_
    refine pu 5 (some 11) (tb 10 41) ?_
    refine take_ (i := 1) (N := some 7) (v := ?_) (a' := ?_) (tb 10 43) rfl rfl (take_ofW HT_.out HW_.out (by kernel_rfl)) (fun _ _ _ h => h) (Or.inl ⟨by rfl, ?_⟩) hHeld ?_ ?_
    rotate_left
    ·rintro w' ⟨s0, s1, s2⟩
     go_simp
     with_reducible rfl
    rotate_left
    ·simp only [Act.put, List.setIfInBounds_toArray, List.set_cons_zero, List.set_cons_succ, i64_w, i32_w]
     rfl
    refine take_ (i := 6) (N := some 12) (v := ?_) (a' := ?_) (tb 10 107) rfl rfl (take_ofW HT_.out HW_.out (by kernel_rfl)) (fun _ _ _ h => h) (Or.inl ⟨by rfl, ?_⟩) hHeld ?_ ?_
    rotate_left
    ·rintro w' ⟨s0, s1, s2⟩
     go_simp
     with_reducible rfl
    rotate_left
    ·simp only [Act.put, List.setIfInBounds_toArray, List.set_cons_zero, List.set_cons_succ, i64_w, i32_w]
     rfl
    refine one_ (i := 2) (N := some 8) (tb 10 111) rfl rfl (one_of HT_.out (by kernel_rfl)) (by decide) (fun K hK => ?_)
    refine goes_ Tryz.func91 (by kernel_rfl) rfl #[.int .i64 a0_0] (by rfl) rfl rfl (by (try simp only [List.map_toArray, List.map_cons, List.map_nil]); first | done | rfl | (simp only [List.length_drop, List.length_take]; rfl)) ?_
    with_reducible refine (spec_l1Num.calls k a0_0 t512 _ A12.out).mono ?_
    rintro e w19 ⟨rfl, hb⟩
    refine ⟨_, rfl, ?_⟩
    replace BK509 := nk BK509 hb
    replace HB := bs hb
    (try clear hb)
    refine hK.out _ _ ⟨ec BK509, ec BK509, ec BK509⟩ (fun hHeld => ?_)
    clear hK K
    refine nm (some 8) ?_
    refine pu 4 (some 10) (tb 10 127) ?_
    refine one_ (i := 7) (N := some 13) (tb 10 255) rfl rfl (one_of HT_.out (by kernel_rfl)) (by decide) (fun K hK => ?_)
    refine goes_ Tryz.func91 (by kernel_rfl) rfl #[.int .i64 a0_2] (by rfl) rfl rfl (by (try simp only [List.map_toArray, List.map_cons, List.map_nil]); first | done | rfl | (simp only [List.length_drop, List.length_take]; rfl)) ?_
    with_reducible refine (spec_l1Num.calls k a0_2 t513 _ A14.out).mono ?_
    rintro e w20 ⟨rfl, hb⟩
    refine ⟨_, rfl, ?_⟩
    replace BK509 := nk BK509 hb
    replace HB := bs hb
    (try clear hb)
    refine hK.out _ _ ⟨ec BK509, ec BK509, ec BK509⟩ (fun hHeld => ?_)
    clear hK K
    refine nm (some 13) ?_
    refine pu 8 (some 14) (tb 10 511) ?_
    refine pu 9 (some 2) (tb 10 1023) ?_
    refine done_ (done_of HT_.out (by kernel_rfl)) ?_
    try go_wp2
    go_ret
    exact ⟨rs, bw⟩
   ·rw [if_neg c15] at H
    exact absurd H (by simp)
  ·rw [if_neg c13] at H
   exact absurd H (by simp)

/-! ### spec_SignalText: function 33 -/
def spec_SignalText.f (k : Nat) (a0_0 : Int) (a0_1 : Bool) (a0_2 : Int) : Option (ByteArray × Bool) := (spec_siSignal.f 100 a0_0 a0_1 a0_2).bind fun t515 => (if t515 = true then ((spec_siText.f k a0_0 a0_1 a0_2).bind fun t516 => (some (t516, true))) else (some ((⟨#[]⟩ : ByteArray), false)))
theorem spec_SignalText.mono : ∀ a0 a1 a2 k, LeO (spec_SignalText.f k a0 a1 a2) (spec_SignalText.f (k + 1) a0 a1 a2) := by
  intro a0 a1 a2 k
  unfold spec_SignalText.f
  repeat' first
      | (with_reducible exact spec_siText.mono _ _ _ _)
      | (with_reducible exact LeO.refl _)
      | (with_reducible exact LeO.none _)
      | (with_reducible refine LeO.ite ?_ ?_)
      | (with_reducible refine LeO.bind ?_ (fun _ => ?_))
      | exact spec_siText.mono _ _ _ _
      | exact LeO.none _
      | refine LeO.ite ?_ ?_
      | refine LeO.bind ?_ (fun _ => ?_)
set_option maxHeartbeats 8000000 in
set_option maxRecDepth 100000 in
theorem spec_SignalText.calls (k : Nat) (a0_0 : Int) (a0_1 : Bool) (a0_2 : Int) (r1 : ByteArray) (r2 : Bool) (w : World) (h : spec_SignalText.f k a0_0 a0_1 a0_2 = some (r1, r2)) :
  Calls Tryz.prog 33 #[.agg #[.int .i64 a0_0, .bool a0_1, .int .i64 a0_2]] w fun e w' => e = .returned (.tuple #[.string r1, .bool r2]) ∧ Below w.heap.size w w' := by
 have hu36 := Tryz.underlying36
 have HB := Aside0.mk (Below.refl w.heap.size w)
 unfold spec_SignalText.f at h
 have H := h
 clear h
 replace H := Option.bind_eq_some_iff.mp H
 obtain ⟨t515, A20, H⟩ := H
 (try dsimp only at H)
 have A2 := Aside0.mk A20
 clear A20
 by_cases c3 : t515 = true
 ·subst c3
  rw [if_pos rfl] at H
  replace H := Option.bind_eq_some_iff.mp H
  obtain ⟨t516, A40, H⟩ := H
  (try dsimp only at H)
  have A4 := Aside0.mk A40
  clear A40
  simp only [Option.some.injEq, Prod.mk.injEq] at H
  obtain ⟨rfl, rfl⟩ := H
  go_enter Tryz.func33, Tryz.ntmps33
  go_wp2_with (first | ((with_reducible refine gate_dst (N := 1) rfl ?_); refine bx 1 36 #[.int .i64 a0_0, .bool a0_1, .int .i64 a0_2] ?_; intro gb514 hg w5 hbox hb; have BK514 := hbox; have GW514 := gs hg; have GE514 := gs hg; replace HB := bs hb; clear hb hbox hg; have hcz6_0 := bc BK514 0 (.int .i64 a0_0); have hcz6_1 := bc BK514 1 (.bool a0_1); have hcz6_2 := bc BK514 2 (.int .i64 a0_2); have hfz6_0 := blk_frozen BK514.out 0; have hfz6_1 := blk_frozen BK514.out 1; have hfz6_2 := blk_frozen BK514.out 2) | ((with_reducible refine gate_callee (f := 72) rfl ?_); refine gl (some 5) Tryz.func72 #[.int .i64 100, .agg #[.int .i64 a0_0, .bool a0_1, .int .i64 a0_2]] ?_; (with_reducible refine (spec_siSignal.calls 100 a0_0 a0_1 a0_2 true _ A2.out).mono ?_); rintro e w7 ⟨rfl, hb⟩; refine ⟨_, rfl, ?_⟩; replace BK514 := nk BK514 hb; replace HB := bs hb; (try clear hb); have hcz8_0 := bc BK514 0 (.int .i64 a0_0); have hcz8_1 := bc BK514 1 (.bool a0_1); have hcz8_2 := bc BK514 2 (.int .i64 a0_2); have hfz8_0 := blk_frozen BK514.out 0; have hfz8_1 := blk_frozen BK514.out 1; have hfz8_2 := blk_frozen BK514.out 2) | ((with_reducible refine gate_callee (f := 73) rfl ?_); refine gl (some 8) Tryz.func73 #[.agg #[.int .i64 a0_0, .bool a0_1, .int .i64 a0_2]] ?_; (with_reducible refine (spec_siText.calls k a0_0 a0_1 a0_2 t516 _ A4.out).mono ?_); rintro e w9 ⟨rfl, hb⟩; refine ⟨_, rfl, ?_⟩; replace HB := bs hb; (try clear hb)))
  go_ret2
  exact ⟨rs, bw⟩
 ·replace c3 := Bool.eq_false_iff.mpr c3
  subst c3
  rw [if_neg (show ¬ (false = true) by decide)] at H
  simp only [Option.some.injEq, Prod.mk.injEq] at H
  obtain ⟨rfl, rfl⟩ := H
  go_enter Tryz.func33, Tryz.ntmps33
  go_wp2_with (first | ((with_reducible refine gate_dst (N := 1) rfl ?_); refine bx 1 36 #[.int .i64 a0_0, .bool a0_1, .int .i64 a0_2] ?_; intro gb514 hg w10 hbox hb; have BK514 := hbox; have GW514 := gs hg; have GE514 := gs hg; replace HB := bs hb; clear hb hbox hg; have hcz11_0 := bc BK514 0 (.int .i64 a0_0); have hcz11_1 := bc BK514 1 (.bool a0_1); have hcz11_2 := bc BK514 2 (.int .i64 a0_2); have hfz11_0 := blk_frozen BK514.out 0; have hfz11_1 := blk_frozen BK514.out 1; have hfz11_2 := blk_frozen BK514.out 2) | ((with_reducible refine gate_callee (f := 72) rfl ?_); refine gl (some 5) Tryz.func72 #[.int .i64 100, .agg #[.int .i64 a0_0, .bool a0_1, .int .i64 a0_2]] ?_; (with_reducible refine (spec_siSignal.calls 100 a0_0 a0_1 a0_2 false _ A2.out).mono ?_); rintro e w12 ⟨rfl, hb⟩; refine ⟨_, rfl, ?_⟩; replace HB := bs hb; (try clear hb)))
  go_ret2
  exact ⟨rs, bw⟩

/-! ### spec_l1Cur_spoilt: function 76 -/
mutual
def spec_l1Cur_spoilt.l0 : Nat → ByteArray → ByteArray → Int → List Int → Int → Int → Option (ByteArray × Int × Int)
  | 0, _, _, _, _, _, _ => none
  | k + 1, x1, x2, x7, x1000, x1001, x1002 => if x7 > 0 then (spec_l1Cur_spoilt.j1 k x1 x2 x7 (decide ((x1.size : Int) > 0)) x1000 x1001 x1002) else (spec_l1Cur_spoilt.j1 k x1 x2 x7 false x1000 x1001 x1002)
def spec_l1Cur_spoilt.j1 : Nat → ByteArray → ByteArray → Int → Bool → List Int → Int → Int → Option (ByteArray × Int × Int)
  | 0, _, _, _, _, _, _, _ => none
  | k + 1, x1, x2, x7, x19, x1000, x1001, x1002 => if x19 = true then ((spec_l1Cur_pick.f x1000 x1001 x1002 (x1.size : Int)).bind fun bt520 => ((spec_l1Cur_pick.f x1000 bt520.2.1 bt520.2.2 (x2.size : Int)).bind fun bt523 => (if 0 ≤ bt523.1 then (if bt523.1 < (x2.size : Int) then ((some (([bt x2 bt523.1] : List Int) : List Int)).bind fun y526 => ((spec_l1Cur_pick.f x1000 bt523.2.1 bt523.2.2 3).bind fun bt529 => (if bt529.1 = 0 then (if 0 ≤ bt520.1 then (if bt520.1 ≤ (x1.size : Int) then (if (x1.extract 0 (bt520.1 : Int).toNat).size + (strOfNums y526).size ≤ 9223372036854775807 then (if ((x1.extract 0 (bt520.1 : Int).toNat) ++ (strOfNums y526)).size + (x1.extract (bt520.1 : Int).toNat x1.size).size ≤ 9223372036854775807 then (spec_l1Cur_spoilt.l0 k (((x1.extract 0 (bt520.1 : Int).toNat) ++ (strOfNums y526)) ++ (x1.extract (bt520.1 : Int).toNat x1.size)) x2 (wrap64 (x7 - 1)) x1000 bt529.2.1 bt529.2.2) else (none)) else (none)) else (none)) else (none)) else (if bt529.1 = 1 then (if 0 ≤ bt520.1 then (if bt520.1 ≤ (x1.size : Int) then (if (x1.extract 0 (bt520.1 : Int).toNat).size + (strOfNums y526).size ≤ 9223372036854775807 then (if 0 ≤ (wrap64 (bt520.1 + 1)) then (if (wrap64 (bt520.1 + 1)) ≤ (x1.size : Int) then (if ((x1.extract 0 (bt520.1 : Int).toNat) ++ (strOfNums y526)).size + (x1.extract ((wrap64 (bt520.1 + 1)) : Int).toNat x1.size).size ≤ 9223372036854775807 then (spec_l1Cur_spoilt.l0 k (((x1.extract 0 (bt520.1 : Int).toNat) ++ (strOfNums y526)) ++ (x1.extract ((wrap64 (bt520.1 + 1)) : Int).toNat x1.size)) x2 (wrap64 (x7 - 1)) x1000 bt529.2.1 bt529.2.2) else (none)) else (none)) else (none)) else (none)) else (none)) else (none)) else (if 0 ≤ bt520.1 then (if bt520.1 ≤ (x1.size : Int) then (if 0 ≤ (wrap64 (bt520.1 + 1)) then (if (wrap64 (bt520.1 + 1)) ≤ (x1.size : Int) then (if (x1.extract 0 (bt520.1 : Int).toNat).size + (x1.extract ((wrap64 (bt520.1 + 1)) : Int).toNat x1.size).size ≤ 9223372036854775807 then (spec_l1Cur_spoilt.l0 k ((x1.extract 0 (bt520.1 : Int).toNat) ++ (x1.extract ((wrap64 (bt520.1 + 1)) : Int).toNat x1.size)) x2 (wrap64 (x7 - 1)) x1000 bt529.2.1 bt529.2.2) else (none)) else (none)) else (none)) else (none)) else (none)))))) else (none)) else (none)))) else (some (x1, x1001, x1002))
end
def spec_l1Cur_spoilt.f (k : Nat) (s0_0 : List Int) (s0_1 : Int) (s0_2 : Int) (a1 : ByteArray) (a2 : ByteArray) : Option (ByteArray × Int × Int) := (spec_l1Cur_pick.f s0_0 s0_1 s0_2 2).bind fun bt517 => (spec_l1Cur_spoilt.l0 k a1 a2 (wrap64 (1 + bt517.1)) s0_0 bt517.2.1 bt517.2.2)
theorem spec_l1Cur_spoilt.mono_l : ∀ k, (∀ y0 y1 y2 y3 y4 y5, LeO (spec_l1Cur_spoilt.l0 k y0 y1 y2 y3 y4 y5) (spec_l1Cur_spoilt.l0 (k + 1) y0 y1 y2 y3 y4 y5)) ∧ (∀ y0 y1 y2 y3 y4 y5 y6, LeO (spec_l1Cur_spoilt.j1 k y0 y1 y2 y3 y4 y5 y6) (spec_l1Cur_spoilt.j1 (k + 1) y0 y1 y2 y3 y4 y5 y6))
  | 0 => ⟨fun _ _ _ _ _ _ r h => by simp [spec_l1Cur_spoilt.l0] at h, fun _ _ _ _ _ _ _ r h => by simp [spec_l1Cur_spoilt.j1] at h⟩
  | k + 1 => by
    obtain ⟨ih0, ih1⟩ := spec_l1Cur_spoilt.mono_l k
    refine ⟨?q0, ?q1⟩
    case' q0 => (intros; unfold spec_l1Cur_spoilt.l0)
    case' q1 => (intros; unfold spec_l1Cur_spoilt.j1)
    all_goals repeat' first
     | (with_reducible exact ih0 _ _ _ _ _ _)
     | (with_reducible exact ih1 _ _ _ _ _ _ _)
     | (with_reducible exact LeO.refl _)
     | (with_reducible exact LeO.none _)
     | (with_reducible refine LeO.ite ?_ ?_)
     | (with_reducible refine LeO.bind ?_ (fun _ => ?_))
     | exact ih0 _ _ _ _ _ _
     | exact ih1 _ _ _ _ _ _ _
     | exact LeO.none _
     | refine LeO.ite ?_ ?_
     | refine LeO.bind ?_ (fun _ => ?_)
theorem spec_l1Cur_spoilt.mono : ∀ a0 a1 a2 a3 a4 k, LeO (spec_l1Cur_spoilt.f k a0 a1 a2 a3 a4) (spec_l1Cur_spoilt.f (k + 1) a0 a1 a2 a3 a4) := by
  intro a0 a1 a2 a3 a4 k
  obtain ⟨ih0, ih1⟩ := spec_l1Cur_spoilt.mono_l k
  unfold spec_l1Cur_spoilt.f
  repeat' first
      | (with_reducible exact ih0 _ _ _ _ _ _)
      | (with_reducible exact ih1 _ _ _ _ _ _ _)
      | (with_reducible exact LeO.refl _)
      | (with_reducible exact LeO.none _)
      | (with_reducible refine LeO.ite ?_ ?_)
      | (with_reducible refine LeO.bind ?_ (fun _ => ?_))
      | exact ih0 _ _ _ _ _ _
      | exact ih1 _ _ _ _ _ _ _
      | exact LeO.none _
      | refine LeO.ite ?_ ?_
      | refine LeO.bind ?_ (fun _ => ?_)
set_option maxHeartbeats 8000000 in
set_option maxRecDepth 100000 in
theorem spec_l1Cur_spoilt.calls (k : Nat) (g : Nat) (s0_0 : List Int) (s0_1 : Int) (s0_2 : Int) (a1 : ByteArray) (a2 : ByteArray) (r1 : ByteArray) (r2 : Int) (r3 : Int) (w0 w : World) (hI : IsS59 w0 w g s0_0 s0_1 s0_2) (hB : Below w0.heap.size w0 w) (h : spec_l1Cur_spoilt.f k s0_0 s0_1 s0_2 a1 a2 = some (r1, r2, r3)) :
  Calls Tryz.prog 76 #[.pointer (some ⟨g, 0, none⟩), .string a1, .string a2] w fun e w' => e = .returned (.string r1) ∧ IsS59 w0 w' g s0_0 r2 r3 ∧ Below w0.heap.size w0 w' ∧ KeepBut w w' g none := by
 have HI0 := Aside0.mk hI
 have HK := Aside0.mk (KeepBut.refl w g none)
 have HL := Aside0.mk hB.size
 clear hI
 have HW0 := Aside0.mk hB.size
 have HB := Aside0.mk hB
 clear hB
 unfold spec_l1Cur_spoilt.f at h
 have H := h
 clear h
 replace H := Option.bind_eq_some_iff.mp H
 obtain ⟨⟨t517, t518, t519⟩, A40, H⟩ := H
 (try dsimp only at H)
 have A4 := Aside0.mk A40
 clear A40
 have H' := Aside0.mk H
 clear H
 go_enter Tryz.func76, Tryz.ntmps76
 iterate 4 ((try go_wp2_with (first | (go_at_call 80; (with_reducible refine (spec_l1Cur_pick.calls g s0_0 s0_1 s0_2 2 t517 t518 t519 w0 _ ?side1 ?side2 A4.out).mono ?_); (case side1 => exact hi59); (case side2 => exact hb59); rintro e w5 ⟨rfl, hi, hb, hk⟩; replace HK := kt HK hk; replace HB := Aside0.mk (hb); replace HI0 := Aside0.mk (hi); (try clear hb)))); (try go_quiet (fail)))
 go_loopg [1, 7] k (fun kq v1 v7 w' => ∃ (x1_1 : ByteArray) (x7_1 : Int) (x1001_1 : Int) (x1002_1 : Int), v1 = .string x1_1 ∧ v7 = .int .i64 x7_1 ∧ Aside0 (spec_l1Cur_spoilt.l0 kq x1_1 a2 x7_1 s0_0 x1001_1 x1002_1 = some (r1, r2, r3)) ∧ Aside0 (kq ≤ k) ∧ Aside0 (IsS59 w0 w' g s0_0 x1001_1 x1002_1) ∧ Aside0 (KeepBut w w' g none) ∧ Aside0 (Below w0.heap.size w0 w'))
 case atStart => exact ⟨(a1), (wrap64 (1 + t517)), (t518), (t519), (rs), (rs), H', ⟨Nat.le_refl _⟩, ⟨hi59⟩, ⟨hkk⟩, ⟨hb59⟩⟩
 case round =>
  clear H'
  try clear p2
  obtain ⟨x1_1, x7_1, x1001_1, x1002_1, rfl, rfl, HA, HK1, HI0, HK, HB⟩ := hrel
  cases gk with
  | zero => exact absurd HA.out (by simp [spec_l1Cur_spoilt.l0])
  | succ k1 =>
   have H := HA.out
   clear HA
   simp only [spec_l1Cur_spoilt.l0] at H
   have HC6 := Aside0.mk H
   clear H
   go_upto_region 2 with (fail)
   repeat (go_quiet (fail); go_upto_region 2 with (fail))
   go_cut [19] (fun v19 wc => ∃ (kq : Nat) (x19_5 : Bool), v19 = .bool x19_5 ∧ Aside0 (spec_l1Cur_spoilt.j1 kq x1_1 a2 x7_1 x19_5 s0_0 x1001_1 x1002_1 = some (r1, r2, r3)) ∧ Aside0 (kq ≤ k1) ∧ Aside0 (IsS59 w0 wc g s0_0 x1001_1 x1002_1) ∧ Aside0 (KeepBut w wc g none) ∧ Aside0 (Below w0.heap.size w0 wc))
   case first =>
    have H := HC6.out
    clear HC6
    by_cases c7 : x7_1 > 0
    ·rw [if_pos c7] at H
     have c7b0 : decide (0 < x7_1) = true := decide_eq_true c7
     clear c7
     (first | rw [c7b0] | rw [@decide_eq_true _ _ (of_decide_eq_true c7b1)] | rw [@decide_eq_false _ _ (of_decide_eq_false c7b1)] | (simp only [i64_w, i32_w]; rw [c7b0]) | skip)
     have H' := Aside0.mk H
     clear H
     go_wp2
     repeat (go_quiet (fail); try go_wp2)
     go_meet
     case rel => exact ⟨_, (decide ((x1_1.size : Int) > 0)), (rs), H', ⟨by have := HK1.out; first | omega | exact Nat.le_refl _⟩, ⟨hi59⟩, ⟨hkk⟩, ⟨hb59⟩⟩
    ·rw [if_neg c7] at H
     have c7b0 : decide (0 < x7_1) = false := decide_eq_false c7
     clear c7
     (first | rw [c7b0] | rw [@decide_eq_true _ _ (of_decide_eq_true c7b1)] | rw [@decide_eq_false _ _ (of_decide_eq_false c7b1)] | (simp only [i64_w, i32_w]; rw [c7b0]) | skip)
     have H' := Aside0.mk H
     clear H
     go_wp2
     repeat (go_quiet (fail); try go_wp2)
     go_meet
     case rel => exact ⟨_, (false), (rs), H', ⟨by have := HK1.out; first | omega | exact Nat.le_refl _⟩, ⟨hi59⟩, ⟨hkk⟩, ⟨hb59⟩⟩
   case rest =>
    clear HC6
    try clear p2
    try clear p6
    try clear c7
    try clear c7b0
    try clear p2
    obtain ⟨kq, x19_5, rfl, HA, HJ5, HI0, HK, HB⟩ := hcut
    cases kq with
    | zero => exact absurd HA.out (by simp [spec_l1Cur_spoilt.j1])
    | succ kj5 =>
     have H := HA.out
     clear HA
     simp only [spec_l1Cur_spoilt.j1] at H
     by_cases c8 : x19_5 = true
     ·subst c8
      rw [if_pos rfl] at H
      replace H := Option.bind_eq_some_iff.mp H
      obtain ⟨⟨t520, t521, t522⟩, A90, H⟩ := H
      (try dsimp only at H)
      have A9 := Aside0.mk A90
      clear A90
      replace H := Option.bind_eq_some_iff.mp H
      obtain ⟨⟨t523, t524, t525⟩, A100, H⟩ := H
      (try dsimp only at H)
      have A10 := Aside0.mk A100
      clear A100
      by_cases c11 : 0 ≤ t523
      ·rw [if_pos c11] at H
       have c11b0 : decide (0 ≤ t523) = true := decide_eq_true c11
       clear c11
       by_cases c12 : t523 < (a2.size : Int)
       ·rw [if_pos c12] at H
        have c12b0 : decide (t523 < (a2.size : Int)) = true := decide_eq_true c12
        clear c12
        obtain ⟨y526, hy526⟩ : ∃ y_ : List Int, y_ = (([bt a2 t523] : List Int)) := ⟨_, rfl⟩
        replace H : ((spec_l1Cur_pick.f s0_0 t524 t525 3).bind fun bt529 => (if bt529.1 = 0 then (if 0 ≤ t520 then (if t520 ≤ (x1_1.size : Int) then (if (x1_1.extract 0 (t520 : Int).toNat).size + (strOfNums y526).size ≤ 9223372036854775807 then (if ((x1_1.extract 0 (t520 : Int).toNat) ++ (strOfNums y526)).size + (x1_1.extract (t520 : Int).toNat x1_1.size).size ≤ 9223372036854775807 then (spec_l1Cur_spoilt.l0 kj5 (((x1_1.extract 0 (t520 : Int).toNat) ++ (strOfNums y526)) ++ (x1_1.extract (t520 : Int).toNat x1_1.size)) a2 (wrap64 (x7_1 - 1)) s0_0 bt529.2.1 bt529.2.2) else (none)) else (none)) else (none)) else (none)) else (if bt529.1 = 1 then (if 0 ≤ t520 then (if t520 ≤ (x1_1.size : Int) then (if (x1_1.extract 0 (t520 : Int).toNat).size + (strOfNums y526).size ≤ 9223372036854775807 then (if 0 ≤ (wrap64 (t520 + 1)) then (if (wrap64 (t520 + 1)) ≤ (x1_1.size : Int) then (if ((x1_1.extract 0 (t520 : Int).toNat) ++ (strOfNums y526)).size + (x1_1.extract ((wrap64 (t520 + 1)) : Int).toNat x1_1.size).size ≤ 9223372036854775807 then (spec_l1Cur_spoilt.l0 kj5 (((x1_1.extract 0 (t520 : Int).toNat) ++ (strOfNums y526)) ++ (x1_1.extract ((wrap64 (t520 + 1)) : Int).toNat x1_1.size)) a2 (wrap64 (x7_1 - 1)) s0_0 bt529.2.1 bt529.2.2) else (none)) else (none)) else (none)) else (none)) else (none)) else (none)) else (if 0 ≤ t520 then (if t520 ≤ (x1_1.size : Int) then (if 0 ≤ (wrap64 (t520 + 1)) then (if (wrap64 (t520 + 1)) ≤ (x1_1.size : Int) then (if (x1_1.extract 0 (t520 : Int).toNat).size + (x1_1.extract ((wrap64 (t520 + 1)) : Int).toNat x1_1.size).size ≤ 9223372036854775807 then (spec_l1Cur_spoilt.l0 kj5 ((x1_1.extract 0 (t520 : Int).toNat) ++ (x1_1.extract ((wrap64 (t520 + 1)) : Int).toNat x1_1.size)) a2 (wrap64 (x7_1 - 1)) s0_0 bt529.2.1 bt529.2.2) else (none)) else (none)) else (none)) else (none)) else (none))))) = some (r1, r2, r3) := by first | (rw [hy526]; with_reducible exact H) | (have H2_ := (Option.bind_some _ _).symm.trans H; rw [hy526]; with_reducible exact H2_) | (have H2_ := (Option.bind_some _ _).symm.trans H; with_reducible exact H2_) | with_reducible exact H | (rw [hy526]; exact H) | exact H
        have Ny526 := Aside0.mk hy526
        clear hy526
        replace H := Option.bind_eq_some_iff.mp H
        obtain ⟨⟨t529, t530, t531⟩, A140, H⟩ := H
        (try dsimp only at H)
        have A14 := Aside0.mk A140
        clear A140
        by_cases c15 : t529 = 0
        ·rw [if_pos c15] at H
         have c15b0 : (t529 == 0) = true := beq_iff_eq.mpr c15
         have c15b1 : (t529 != 0) = false := bne_eq_false_iff_eq.mpr c15
         clear c15
         by_cases c16 : 0 ≤ t520
         ·rw [if_pos c16] at H
          have c16b0 := eq_true c16
          have c16b1 : decide (0 ≤ t520) = true := decide_eq_true c16
          clear c16
          by_cases c17 : t520 ≤ (x1_1.size : Int)
          ·rw [if_pos c17] at H
           have c17b0 := eq_true c17
           have c17b1 : decide (t520 ≤ (x1_1.size : Int)) = true := decide_eq_true c17
           clear c17
           by_cases c18 : (x1_1.extract 0 (t520 : Int).toNat).size + (strOfNums y526).size ≤ 9223372036854775807
           ·rw [if_pos c18] at H
            have c18b0 := eq_true c18
            have c18b1 : decide ((x1_1.extract 0 (t520 : Int).toNat).size + (strOfNums y526).size ≤ 9223372036854775807) = true := decide_eq_true c18
            try have c18b2 : (9223372036854775807 < (x1_1.extract 0 (t520 : Int).toNat).size + (strOfNums y526).size) = False := eq_false (Nat.not_lt.2 c18)
            try have c18b3 : (9223372036854775807 < (t520 : Int).toNat + strOfNums y526.size) = False := eq_false (by have h9_ := c18; clear H; simp only [ByteArray.size_append, ByteArray.size_extract] at h9_; simp only [eq_iff_iff, iff_true, iff_false] at *; have z9_ : (⟨#[]⟩ : ByteArray).size = 0 := rfl; omega)
            have c19b0 := eq_true (of_decide_eq_true asm : 0 ≤ t520)
            have c20b0 := eq_true (of_decide_eq_true asm : t520 ≤ (x1_1.size : Int))
            by_cases c21 : ((x1_1.extract 0 (t520 : Int).toNat) ++ (strOfNums y526)).size + (x1_1.extract (t520 : Int).toNat x1_1.size).size ≤ 9223372036854775807
            ·rw [if_pos c21] at H
             have c21b0 := eq_true c21
             have c21b1 : decide (((x1_1.extract 0 (t520 : Int).toNat) ++ (strOfNums y526)).size + (x1_1.extract (t520 : Int).toNat x1_1.size).size ≤ 9223372036854775807) = true := decide_eq_true c21
             try have c21b2 : (9223372036854775807 < ((x1_1.extract 0 (t520 : Int).toNat) ++ (strOfNums y526)).size + (x1_1.extract (t520 : Int).toNat x1_1.size).size) = False := eq_false (Nat.not_lt.2 c21)
             try have c21b3 : (9223372036854775807 < (t520 : Int).toNat + strOfNums y526.size + (x1_1.size - (t520 : Int).toNat)) = False := eq_false (by have h9_ := c21; clear H; simp only [ByteArray.size_append, ByteArray.size_extract] at h9_; simp only [eq_iff_iff, iff_true, iff_false] at *; have z9_ : (⟨#[]⟩ : ByteArray).size = 0 := rfl; omega)
             have H' := Aside0.mk H
             clear H
             iterate 4 ((try go_wp2_with (first | (go_at_call 80; (with_reducible refine (spec_l1Cur_pick.calls g s0_0 x1001_1 x1002_1 (x1_1.size : Int) t520 t521 t522 w0 _ ?side1 ?side2 A9.out).mono ?_); (case side1 => exact hi59); (case side2 => exact hb59); rintro e w22 ⟨rfl, hi, hb, hk⟩; replace HK := kt HK hk; replace HB := Aside0.mk (hb); replace HI0 := Aside0.mk (hi); (try clear hb)) | (go_at_call 80; (with_reducible refine (spec_l1Cur_pick.calls g s0_0 t521 t522 (a2.size : Int) t523 t524 t525 w0 _ ?side1 ?side2 A10.out).mono ?_); (case side1 => exact hi59); (case side2 => exact hb59); rintro e w23 ⟨rfl, hi, hb, hk⟩; replace HK := kt HK hk; replace HB := Aside0.mk (hb); replace HI0 := Aside0.mk (hi); (try clear hb); have p13 : 0 ≤ (t523 : Int) := of_decide_eq_true asm; have q13 : t523 < (a2.size : Int) := of_decide_eq_true asm; have hx13 := bt_at a2 t523; replace p13 := eq_true p13; replace q13 := eq_true q13) | ((with_reducible refine gate_dst (N := 32) rfl ?_); (try (refine gate_guard (by rfl) ?_; dsimp only)); refine Kd.R_lit (Kd.int .u8) _ 5 ?hg (N := 32) ?hd (xs := ([bt a2 t523] : List Int)) (inner := [.int .u8 (bt a2 t523)]) (ok := fun _ => True) (okp := fun _ => True) ?hr ?hp (fun _ hk => hk) trivial (Below.refl _ _) (Nat.le_refl _) (by simp) ?_; (case hd => rfl); (case hg => rfl); (case hr => first | (go_simp; done) | (go_simp; rfl)); (case hp => exact (Reps.one (show Kd.M (Kd.int .u8) _ _ _ (bt a2 t523) [.int .u8 (bt a2 t523)] from rfl) (Reps.none _ _))); intro v527 w24 ho25 hb hg_ hnew_; clear hg_ hnew_; (first | rw [← Ny526.out] at ho25 | (simp only [Int.reduceToNat] at ho25; rw [← Ny526.out] at ho25)); have HO528 := Aside0.mk (Kd.R_lower ho25 (keep_size (w := w) (g := g) (row := none) hkk)); replace HK := kt HK (KeepBut.of_below hb g none); replace HB := bt59 HB hb; replace HI0 := ib59 HI0 hb; clear hb ho25; have hcv26 := own_string (P := Tryz.prog) Tryz.underlying22 Tryz.underlying5 Tryz.underlying9 (Kd.own_of_R HO528.out)) | (go_at_call 80; (with_reducible refine (spec_l1Cur_pick.calls g s0_0 t524 t525 3 t529 t530 t531 w0 _ ?side1 ?side2 A14.out).mono ?_); (case side1 => exact hi59); (case side2 => exact hb59); rintro e w27 ⟨rfl, hi, hb, hk⟩; replace HO528 := Aside0.mk (Kd.R_mono (Kd.R_keep (IsS59.apart (show IsS59 w0 _ g s0_0 t524 t525 from hi59) (pr HO528) (by decide)) hk (fun _ h => h.2)) (fun _ h => h.1)); replace HK := kt HK hk; replace HB := Aside0.mk (hb); replace HI0 := Aside0.mk (hi); (try clear hb)))); (try go_quiet (fail)))
             go_roundg kj5
             case measure => have := HK1.out; have := HJ5.out; omega
             case rel => exact ⟨(((x1_1.extract 0 (t520 : Int).toNat) ++ (strOfNums y526)) ++ (x1_1.extract (t520 : Int).toNat x1_1.size)), (wrap64 (x7_1 - 1)), (t530), (t531), (rs), (rs), H', ⟨by have := HK1.out; have := HJ5.out; omega⟩, ⟨hi59⟩, ⟨hkk⟩, ⟨hb59⟩⟩
            ·rw [if_neg c21] at H
             exact absurd H (by simp)
           ·rw [if_neg c18] at H
            exact absurd H (by simp)
          ·rw [if_neg c17] at H
           exact absurd H (by simp)
         ·rw [if_neg c16] at H
          exact absurd H (by simp)
        ·rw [if_neg c15] at H
         have c15b0 : (t529 == 0) = false := beq_eq_false_iff_ne.mpr c15
         have c15b1 : (t529 != 0) = true := bne_iff_ne.mpr c15
         by_cases c28 : t529 = 1
         ·rw [if_pos c28] at H
          have c28b0 : (t529 == 1) = true := beq_iff_eq.mpr c28
          have c28b1 : (t529 != 1) = false := bne_eq_false_iff_eq.mpr c28
          clear c28
          by_cases c29 : 0 ≤ t520
          ·rw [if_pos c29] at H
           have c29b0 := eq_true c29
           have c29b1 : decide (0 ≤ t520) = true := decide_eq_true c29
           clear c29
           by_cases c30 : t520 ≤ (x1_1.size : Int)
           ·rw [if_pos c30] at H
            have c30b0 := eq_true c30
            have c30b1 : decide (t520 ≤ (x1_1.size : Int)) = true := decide_eq_true c30
            clear c30
            by_cases c31 : (x1_1.extract 0 (t520 : Int).toNat).size + (strOfNums y526).size ≤ 9223372036854775807
            ·rw [if_pos c31] at H
             have c31b0 := eq_true c31
             have c31b1 : decide ((x1_1.extract 0 (t520 : Int).toNat).size + (strOfNums y526).size ≤ 9223372036854775807) = true := decide_eq_true c31
             try have c31b2 : (9223372036854775807 < (x1_1.extract 0 (t520 : Int).toNat).size + (strOfNums y526).size) = False := eq_false (Nat.not_lt.2 c31)
             try have c31b3 : (9223372036854775807 < (t520 : Int).toNat + strOfNums y526.size) = False := eq_false (by have h9_ := c31; clear H; simp only [ByteArray.size_append, ByteArray.size_extract] at h9_; simp only [eq_iff_iff, iff_true, iff_false] at *; have z9_ : (⟨#[]⟩ : ByteArray).size = 0 := rfl; omega)
             obtain ⟨ji32, hji32⟩ : ∃ j_ : Int, (wrap64 (t520 + 1)) = j_ := ⟨_, rfl⟩
             replace H : (if 0 ≤ (ji32) then (if (ji32) ≤ (x1_1.size : Int) then (if ((x1_1.extract 0 (t520 : Int).toNat) ++ (strOfNums y526)).size + (x1_1.extract ((ji32) : Int).toNat x1_1.size).size ≤ 9223372036854775807 then (spec_l1Cur_spoilt.l0 kj5 (((x1_1.extract 0 (t520 : Int).toNat) ++ (strOfNums y526)) ++ (x1_1.extract ((ji32) : Int).toNat x1_1.size)) a2 (wrap64 (x7_1 - 1)) s0_0 t530 t531) else (none)) else (none)) else (none)) = some (r1, r2, r3) := by first | (rw [hji32] at H; exact H) | (simp only [hji32] at H ⊢; exact H)
             (try rw [hji32] at A9)
             (try rw [hji32] at A10)
             (try rw [hji32] at A14)
             have hji32w : (IntKind.i64.wrap (t520 + 1)) = ji32 := (i64_w _).trans hji32
             by_cases c33 : 0 ≤ (ji32)
             ·rw [if_pos c33] at H
              have c33b0 := eq_true c33
              have c33b1 : decide (0 ≤ (ji32)) = true := decide_eq_true c33
              clear c33
              by_cases c34 : (ji32) ≤ (x1_1.size : Int)
              ·rw [if_pos c34] at H
               have c34b0 := eq_true c34
               have c34b1 : decide ((ji32) ≤ (x1_1.size : Int)) = true := decide_eq_true c34
               clear c34
               by_cases c35 : ((x1_1.extract 0 (t520 : Int).toNat) ++ (strOfNums y526)).size + (x1_1.extract ((ji32) : Int).toNat x1_1.size).size ≤ 9223372036854775807
               ·rw [if_pos c35] at H
                have c35b0 := eq_true c35
                have c35b1 : decide (((x1_1.extract 0 (t520 : Int).toNat) ++ (strOfNums y526)).size + (x1_1.extract ((ji32) : Int).toNat x1_1.size).size ≤ 9223372036854775807) = true := decide_eq_true c35
                try have c35b2 : (9223372036854775807 < ((x1_1.extract 0 (t520 : Int).toNat) ++ (strOfNums y526)).size + (x1_1.extract ((ji32) : Int).toNat x1_1.size).size) = False := eq_false (Nat.not_lt.2 c35)
                try have c35b3 : (9223372036854775807 < (t520 : Int).toNat + strOfNums y526.size + (x1_1.size - ((ji32) : Int).toNat)) = False := eq_false (by have h9_ := c35; clear H; simp only [ByteArray.size_append, ByteArray.size_extract] at h9_; simp only [eq_iff_iff, iff_true, iff_false] at *; have z9_ : (⟨#[]⟩ : ByteArray).size = 0 := rfl; omega)
                have H' := Aside0.mk H
                clear H
                iterate 4 ((try go_wp2_with (first | (go_at_call 80; (with_reducible refine (spec_l1Cur_pick.calls g s0_0 x1001_1 x1002_1 (x1_1.size : Int) t520 t521 t522 w0 _ ?side1 ?side2 A9.out).mono ?_); (case side1 => exact hi59); (case side2 => exact hb59); rintro e w36 ⟨rfl, hi, hb, hk⟩; replace HK := kt HK hk; replace HB := Aside0.mk (hb); replace HI0 := Aside0.mk (hi); (try clear hb)) | (go_at_call 80; (with_reducible refine (spec_l1Cur_pick.calls g s0_0 t521 t522 (a2.size : Int) t523 t524 t525 w0 _ ?side1 ?side2 A10.out).mono ?_); (case side1 => exact hi59); (case side2 => exact hb59); rintro e w37 ⟨rfl, hi, hb, hk⟩; replace HK := kt HK hk; replace HB := Aside0.mk (hb); replace HI0 := Aside0.mk (hi); (try clear hb); have p13 : 0 ≤ (t523 : Int) := of_decide_eq_true asm; have q13 : t523 < (a2.size : Int) := of_decide_eq_true asm; have hx13 := bt_at a2 t523; replace p13 := eq_true p13; replace q13 := eq_true q13) | ((with_reducible refine gate_dst (N := 32) rfl ?_); (try (refine gate_guard (by rfl) ?_; dsimp only)); refine Kd.R_lit (Kd.int .u8) _ 5 ?hg (N := 32) ?hd (xs := ([bt a2 t523] : List Int)) (inner := [.int .u8 (bt a2 t523)]) (ok := fun _ => True) (okp := fun _ => True) ?hr ?hp (fun _ hk => hk) trivial (Below.refl _ _) (Nat.le_refl _) (by simp) ?_; (case hd => rfl); (case hg => rfl); (case hr => first | (go_simp; done) | (go_simp; rfl)); (case hp => exact (Reps.one (show Kd.M (Kd.int .u8) _ _ _ (bt a2 t523) [.int .u8 (bt a2 t523)] from rfl) (Reps.none _ _))); intro v527 w38 ho39 hb hg_ hnew_; clear hg_ hnew_; (first | rw [← Ny526.out] at ho39 | (simp only [Int.reduceToNat] at ho39; rw [← Ny526.out] at ho39)); have HO528 := Aside0.mk (Kd.R_lower ho39 (keep_size (w := w) (g := g) (row := none) hkk)); replace HK := kt HK (KeepBut.of_below hb g none); replace HB := bt59 HB hb; replace HI0 := ib59 HI0 hb; clear hb ho39; have hcv40 := own_string (P := Tryz.prog) Tryz.underlying22 Tryz.underlying5 Tryz.underlying9 (Kd.own_of_R HO528.out)) | (go_at_call 80; (with_reducible refine (spec_l1Cur_pick.calls g s0_0 t524 t525 3 t529 t530 t531 w0 _ ?side1 ?side2 A14.out).mono ?_); (case side1 => exact hi59); (case side2 => exact hb59); rintro e w41 ⟨rfl, hi, hb, hk⟩; replace HO528 := Aside0.mk (Kd.R_mono (Kd.R_keep (IsS59.apart (show IsS59 w0 _ g s0_0 t524 t525 from hi59) (pr HO528) (by decide)) hk (fun _ h => h.2)) (fun _ h => h.1)); replace HK := kt HK hk; replace HB := Aside0.mk (hb); replace HI0 := Aside0.mk (hi); (try clear hb)))); (try go_quiet (fail)))
                go_roundg kj5
                case measure => have := HK1.out; have := HJ5.out; omega
                case rel => exact ⟨(((x1_1.extract 0 (t520 : Int).toNat) ++ (strOfNums y526)) ++ (x1_1.extract ((ji32) : Int).toNat x1_1.size)), (wrap64 (x7_1 - 1)), (t530), (t531), (by first | rfl | (simp; done) | (simp only [← hji32] <;> (first | rfl | simp)) | (simp [*]; done)), (rs), H', ⟨by have := HK1.out; have := HJ5.out; omega⟩, ⟨hi59⟩, ⟨hkk⟩, ⟨hb59⟩⟩
               ·rw [if_neg c35] at H
                exact absurd H (by simp)
              ·rw [if_neg c34] at H
               exact absurd H (by simp)
             ·rw [if_neg c33] at H
              exact absurd H (by simp)
            ·rw [if_neg c31] at H
             exact absurd H (by simp)
           ·rw [if_neg c30] at H
            exact absurd H (by simp)
          ·rw [if_neg c29] at H
           exact absurd H (by simp)
         ·rw [if_neg c28] at H
          have c28b0 : (t529 == 1) = false := beq_eq_false_iff_ne.mpr c28
          have c28b1 : (t529 != 1) = true := bne_iff_ne.mpr c28
          by_cases c42 : 0 ≤ t520
          ·rw [if_pos c42] at H
           have c42b0 := eq_true c42
           have c42b1 : decide (0 ≤ t520) = true := decide_eq_true c42
           clear c42
           by_cases c43 : t520 ≤ (x1_1.size : Int)
           ·rw [if_pos c43] at H
            have c43b0 := eq_true c43
            have c43b1 : decide (t520 ≤ (x1_1.size : Int)) = true := decide_eq_true c43
            clear c43
            obtain ⟨ji44, hji44⟩ : ∃ j_ : Int, (wrap64 (t520 + 1)) = j_ := ⟨_, rfl⟩
            replace H : (if 0 ≤ (ji44) then (if (ji44) ≤ (x1_1.size : Int) then (if (x1_1.extract 0 (t520 : Int).toNat).size + (x1_1.extract ((ji44) : Int).toNat x1_1.size).size ≤ 9223372036854775807 then (spec_l1Cur_spoilt.l0 kj5 ((x1_1.extract 0 (t520 : Int).toNat) ++ (x1_1.extract ((ji44) : Int).toNat x1_1.size)) a2 (wrap64 (x7_1 - 1)) s0_0 t530 t531) else (none)) else (none)) else (none)) = some (r1, r2, r3) := by first | (rw [hji44] at H; exact H) | (simp only [hji44] at H ⊢; exact H)
            (try rw [hji44] at A9)
            (try rw [hji44] at A10)
            (try rw [hji44] at A14)
            have hji44w : (IntKind.i64.wrap (t520 + 1)) = ji44 := (i64_w _).trans hji44
            by_cases c45 : 0 ≤ (ji44)
            ·rw [if_pos c45] at H
             have c45b0 := eq_true c45
             have c45b1 : decide (0 ≤ (ji44)) = true := decide_eq_true c45
             clear c45
             by_cases c46 : (ji44) ≤ (x1_1.size : Int)
             ·rw [if_pos c46] at H
              have c46b0 := eq_true c46
              have c46b1 : decide ((ji44) ≤ (x1_1.size : Int)) = true := decide_eq_true c46
              clear c46
              by_cases c47 : (x1_1.extract 0 (t520 : Int).toNat).size + (x1_1.extract ((ji44) : Int).toNat x1_1.size).size ≤ 9223372036854775807
              ·rw [if_pos c47] at H
               have c47b0 := eq_true c47
               have c47b1 : decide ((x1_1.extract 0 (t520 : Int).toNat).size + (x1_1.extract ((ji44) : Int).toNat x1_1.size).size ≤ 9223372036854775807) = true := decide_eq_true c47
               try have c47b2 : (9223372036854775807 < (x1_1.extract 0 (t520 : Int).toNat).size + (x1_1.extract ((ji44) : Int).toNat x1_1.size).size) = False := eq_false (Nat.not_lt.2 c47)
               try have c47b3 : (9223372036854775807 < (t520 : Int).toNat + (x1_1.size - ((ji44) : Int).toNat)) = False := eq_false (by have h9_ := c47; clear H; simp only [ByteArray.size_append, ByteArray.size_extract] at h9_; simp only [eq_iff_iff, iff_true, iff_false] at *; have z9_ : (⟨#[]⟩ : ByteArray).size = 0 := rfl; omega)
               have H' := Aside0.mk H
               clear H
               iterate 4 ((try go_wp2_with (first | (go_at_call 80; (with_reducible refine (spec_l1Cur_pick.calls g s0_0 x1001_1 x1002_1 (x1_1.size : Int) t520 t521 t522 w0 _ ?side1 ?side2 A9.out).mono ?_); (case side1 => exact hi59); (case side2 => exact hb59); rintro e w48 ⟨rfl, hi, hb, hk⟩; replace HK := kt HK hk; replace HB := Aside0.mk (hb); replace HI0 := Aside0.mk (hi); (try clear hb)) | (go_at_call 80; (with_reducible refine (spec_l1Cur_pick.calls g s0_0 t521 t522 (a2.size : Int) t523 t524 t525 w0 _ ?side1 ?side2 A10.out).mono ?_); (case side1 => exact hi59); (case side2 => exact hb59); rintro e w49 ⟨rfl, hi, hb, hk⟩; replace HK := kt HK hk; replace HB := Aside0.mk (hb); replace HI0 := Aside0.mk (hi); (try clear hb); have p13 : 0 ≤ (t523 : Int) := of_decide_eq_true asm; have q13 : t523 < (a2.size : Int) := of_decide_eq_true asm; have hx13 := bt_at a2 t523; replace p13 := eq_true p13; replace q13 := eq_true q13) | ((with_reducible refine gate_dst (N := 32) rfl ?_); (try (refine gate_guard (by rfl) ?_; dsimp only)); refine Kd.R_lit (Kd.int .u8) _ 5 ?hg (N := 32) ?hd (xs := ([bt a2 t523] : List Int)) (inner := [.int .u8 (bt a2 t523)]) (ok := fun _ => True) (okp := fun _ => True) ?hr ?hp (fun _ hk => hk) trivial (Below.refl _ _) (Nat.le_refl _) (by simp) ?_; (case hd => rfl); (case hg => rfl); (case hr => first | (go_simp; done) | (go_simp; rfl)); (case hp => exact (Reps.one (show Kd.M (Kd.int .u8) _ _ _ (bt a2 t523) [.int .u8 (bt a2 t523)] from rfl) (Reps.none _ _))); intro v527 w50 ho51 hb hg_ hnew_; clear hg_ hnew_; (first | rw [← Ny526.out] at ho51 | (simp only [Int.reduceToNat] at ho51; rw [← Ny526.out] at ho51)); have HO528 := Aside0.mk (Kd.R_lower ho51 (keep_size (w := w) (g := g) (row := none) hkk)); replace HK := kt HK (KeepBut.of_below hb g none); replace HB := bt59 HB hb; replace HI0 := ib59 HI0 hb; clear hb ho51; have hcv52 := own_string (P := Tryz.prog) Tryz.underlying22 Tryz.underlying5 Tryz.underlying9 (Kd.own_of_R HO528.out)) | (go_at_call 80; (with_reducible refine (spec_l1Cur_pick.calls g s0_0 t524 t525 3 t529 t530 t531 w0 _ ?side1 ?side2 A14.out).mono ?_); (case side1 => exact hi59); (case side2 => exact hb59); rintro e w53 ⟨rfl, hi, hb, hk⟩; replace HO528 := Aside0.mk (Kd.R_mono (Kd.R_keep (IsS59.apart (show IsS59 w0 _ g s0_0 t524 t525 from hi59) (pr HO528) (by decide)) hk (fun _ h => h.2)) (fun _ h => h.1)); replace HK := kt HK hk; replace HB := Aside0.mk (hb); replace HI0 := Aside0.mk (hi); (try clear hb)))); (try go_quiet (fail)))
               go_roundg kj5
               case measure => have := HK1.out; have := HJ5.out; omega
               case rel => exact ⟨((x1_1.extract 0 (t520 : Int).toNat) ++ (x1_1.extract ((ji44) : Int).toNat x1_1.size)), (wrap64 (x7_1 - 1)), (t530), (t531), (by first | rfl | (simp; done) | (simp only [← hji44] <;> (first | rfl | simp)) | (simp [*]; done)), (rs), H', ⟨by have := HK1.out; have := HJ5.out; omega⟩, ⟨hi59⟩, ⟨hkk⟩, ⟨hb59⟩⟩
              ·rw [if_neg c47] at H
               exact absurd H (by simp)
             ·rw [if_neg c46] at H
              exact absurd H (by simp)
            ·rw [if_neg c45] at H
             exact absurd H (by simp)
           ·rw [if_neg c43] at H
            exact absurd H (by simp)
          ·rw [if_neg c42] at H
           exact absurd H (by simp)
       ·rw [if_neg c12] at H
        exact absurd H (by simp)
      ·rw [if_neg c11] at H
       exact absurd H (by simp)
     ·replace c8 := Bool.eq_false_iff.mpr c8
      subst c8
      rw [if_neg (show ¬ (false = true) by decide)] at H
      simp only [Option.some.injEq, Prod.mk.injEq] at H
      obtain ⟨rfl, rfl, rfl⟩ := H
      go_wp2
      repeat (go_quiet (fail); try go_wp2)
      go_ret
      exact ⟨rs, by (try simp only [Int.add_zero]); exact hi59, hb59, hkk⟩

/-! ### spec_DrawParseSignal: function 34 -/
def spec_DrawParseSignal.f (k : Nat) (l0 : List Int) : Option (ByteArray) := (spec_l1Cur_sureSignal.f l0 0 0 100).bind fun bt533 => ((spec_siText.f k bt533.1 bt533.2.1 bt533.2.2.1).bind fun t538 => ((spec_l1Cur_one.f l0 bt533.2.2.2.1 bt533.2.2.2.2 3).bind fun bt539 => (if bt539.1 = true then ((spec_l1Cur_spoilt.f k l0 bt539.2.1 bt539.2.2 t538 (⟨#[48, 49, 50, 51, 60, 62, 120]⟩ : ByteArray)).bind fun bt542 => (some bt542.1)) else (some t538))))
theorem spec_DrawParseSignal.mono : ∀ a0 k, LeO (spec_DrawParseSignal.f k a0) (spec_DrawParseSignal.f (k + 1) a0) := by
  intro a0 k
  unfold spec_DrawParseSignal.f
  repeat' first
      | (with_reducible exact spec_l1Cur_spoilt.mono _ _ _ _ _ _)
      | (with_reducible exact spec_siText.mono _ _ _ _)
      | (with_reducible exact LeO.refl _)
      | (with_reducible exact LeO.none _)
      | (with_reducible refine LeO.ite ?_ ?_)
      | (with_reducible refine LeO.bind ?_ (fun _ => ?_))
      | exact spec_l1Cur_spoilt.mono _ _ _ _ _ _
      | exact spec_siText.mono _ _ _ _
      | exact LeO.none _
      | refine LeO.ite ?_ ?_
      | refine LeO.bind ?_ (fun _ => ?_)
set_option maxHeartbeats 8000000 in
set_option maxRecDepth 100000 in
theorem spec_DrawParseSignal.calls (k : Nat) (A0 : Option Addr) (c0 : Nat) (l0 : List Int) (r : ByteArray) (w : World) (hr0 : Kd.C (Kd.int .u8) w A0 l0.length l0) (hc0 : l0.length ≤ c0) (h : spec_DrawParseSignal.f k l0 = some r) :
  Calls Tryz.prog 34 #[.slice A0 l0.length c0] w fun e w' => e = .returned (.string r) ∧ Below w.heap.size w w' := by
 have hu59 := Tryz.underlying59
 have HR0 := Aside0.mk hr0
 have HC0 := Aside0.mk hc0
 clear hr0 hc0
 have HB := Aside0.mk (Below.refl w.heap.size w)
 unfold spec_DrawParseSignal.f at h
 have H := h
 clear h
 replace H := Option.bind_eq_some_iff.mp H
 obtain ⟨⟨t533, t534, t535, t536, t537⟩, A20, H⟩ := H
 (try dsimp only at H)
 have A2 := Aside0.mk A20
 clear A20
 replace H := Option.bind_eq_some_iff.mp H
 obtain ⟨t538, A30, H⟩ := H
 (try dsimp only at H)
 have A3 := Aside0.mk A30
 clear A30
 replace H := Option.bind_eq_some_iff.mp H
 obtain ⟨⟨t539, t540, t541⟩, A40, H⟩ := H
 (try dsimp only at H)
 have A4 := Aside0.mk A40
 clear A40
 by_cases c5 : t539 = true
 ·subst c5
  rw [if_pos rfl] at H
  replace H := Option.bind_eq_some_iff.mp H
  obtain ⟨⟨t542, t543, t544⟩, A60, H⟩ := H
  (try dsimp only at H)
  have A6 := Aside0.mk A60
  clear A60
  obtain rfl := Option.some.inj H
  go_enter Tryz.func34, Tryz.ntmps34
  go_wp2_with (first | ((with_reducible refine gate_dst (N := 7) rfl ?_); refine box_event ?hg (N := 7) ?hd (cs := #[.slice A0 l0.length c0, .int .i64 0, .int .u64 0]) (t := 59) ?hr ?_; (case hd => rfl); (case hg => rfl); (case hr => first | (go_simp; done) | (go_simp; rfl)); intro gb532 hg w7 hbox hb; have GW532 := gs hg; have GE532 := gs hg; have HI532 := Aside0.mk ((show IsS59 w _ gb532 l0 0 0 from ⟨_, _, hbox, (by rw [hg]; exact (below_size bw)), HR0.out⟩)); replace HB := bs hb; clear hb hbox hg) | ((with_reducible refine gate_callee (f := 74) rfl ?_); refine gl (some 9) Tryz.func74 #[.pointer (some ⟨gb532, 0, none⟩), .int .i64 100] ?_; (with_reducible refine (spec_l1Cur_sureSignal.calls gb532 l0 0 0 100 t533 t534 t535 t536 t537 w _ ?side1 ?side2 A2.out).mono ?_); (case side1 => exact hi59); (case side2 => exact hb59); rintro e w8 ⟨rfl, hi, hb, hk⟩; refine ⟨_, rfl, ?_⟩; replace HB := Aside0.mk (hb); replace HI532 := Aside0.mk (hi); (try clear hb)) | ((with_reducible refine gate_callee (f := 73) rfl ?_); refine gl (some 10) Tryz.func73 #[.agg #[.int .i64 t533, .bool t534, .int .i64 t535]] ?_; (with_reducible refine (spec_siText.calls k t533 t534 t535 t538 _ A3.out).mono ?_); rintro e w9 ⟨rfl, hb⟩; refine ⟨_, rfl, ?_⟩; replace HB := bt59 HB hb; replace HI532 := ib59 HI532 hb; (try clear hb)) | ((with_reducible refine gate_callee (f := 75) rfl ?_); refine gl (some 12) Tryz.func75 #[.pointer (some ⟨gb532, 0, none⟩), .int .i64 3] ?_; (with_reducible refine (spec_l1Cur_one.calls gb532 l0 t536 t537 3 true t540 t541 w _ ?side1 ?side2 A4.out).mono ?_); (case side1 => exact hi59); (case side2 => exact hb59); rintro e w10 ⟨rfl, hi, hb, hk⟩; refine ⟨_, rfl, ?_⟩; replace HB := Aside0.mk (hb); replace HI532 := Aside0.mk (hi); (try clear hb)) | ((with_reducible refine gate_callee (f := 76) rfl ?_); refine gl (some 15) Tryz.func76 #[.pointer (some ⟨gb532, 0, none⟩), .string t538, .string (⟨#[48, 49, 50, 51, 60, 62, 120]⟩ : ByteArray)] ?_; (with_reducible refine (spec_l1Cur_spoilt.calls k gb532 l0 t540 t541 t538 (⟨#[48, 49, 50, 51, 60, 62, 120]⟩ : ByteArray) t542 t543 t544 w _ ?side1 ?side2 A6.out).mono ?_); (case side1 => exact hi59); (case side2 => exact hb59); rintro e w11 ⟨rfl, hi, hb, hk⟩; refine ⟨_, rfl, ?_⟩; replace HB := Aside0.mk (hb); replace HI532 := Aside0.mk (hi); (try clear hb)))
  go_ret
  exact ⟨rs, hb59⟩
 ·replace c5 := Bool.eq_false_iff.mpr c5
  subst c5
  rw [if_neg (show ¬ (false = true) by decide)] at H
  obtain rfl := Option.some.inj H
  go_enter Tryz.func34, Tryz.ntmps34
  go_wp2_with (first | ((with_reducible refine gate_dst (N := 7) rfl ?_); refine box_event ?hg (N := 7) ?hd (cs := #[.slice A0 l0.length c0, .int .i64 0, .int .u64 0]) (t := 59) ?hr ?_; (case hd => rfl); (case hg => rfl); (case hr => first | (go_simp; done) | (go_simp; rfl)); intro gb532 hg w12 hbox hb; have GW532 := gs hg; have GE532 := gs hg; have HI532 := Aside0.mk ((show IsS59 w _ gb532 l0 0 0 from ⟨_, _, hbox, (by rw [hg]; exact (below_size bw)), HR0.out⟩)); replace HB := bs hb; clear hb hbox hg) | ((with_reducible refine gate_callee (f := 74) rfl ?_); refine gl (some 9) Tryz.func74 #[.pointer (some ⟨gb532, 0, none⟩), .int .i64 100] ?_; (with_reducible refine (spec_l1Cur_sureSignal.calls gb532 l0 0 0 100 t533 t534 t535 t536 t537 w _ ?side1 ?side2 A2.out).mono ?_); (case side1 => exact hi59); (case side2 => exact hb59); rintro e w13 ⟨rfl, hi, hb, hk⟩; refine ⟨_, rfl, ?_⟩; replace HB := Aside0.mk (hb); replace HI532 := Aside0.mk (hi); (try clear hb)) | ((with_reducible refine gate_callee (f := 73) rfl ?_); refine gl (some 10) Tryz.func73 #[.agg #[.int .i64 t533, .bool t534, .int .i64 t535]] ?_; (with_reducible refine (spec_siText.calls k t533 t534 t535 t538 _ A3.out).mono ?_); rintro e w14 ⟨rfl, hb⟩; refine ⟨_, rfl, ?_⟩; replace HB := bt59 HB hb; replace HI532 := ib59 HI532 hb; (try clear hb)) | ((with_reducible refine gate_callee (f := 75) rfl ?_); refine gl (some 12) Tryz.func75 #[.pointer (some ⟨gb532, 0, none⟩), .int .i64 3] ?_; (with_reducible refine (spec_l1Cur_one.calls gb532 l0 t536 t537 3 false t540 t541 w _ ?side1 ?side2 A4.out).mono ?_); (case side1 => exact hi59); (case side2 => exact hb59); rintro e w15 ⟨rfl, hi, hb, hk⟩; refine ⟨_, rfl, ?_⟩; replace HB := Aside0.mk (hb); replace HI532 := Aside0.mk (hi); (try clear hb)))
  go_ret
  exact ⟨rs, hb59⟩

/-! ### strings_IndexAny: function 77 -/
def strings_IndexAny.f (a0 : ByteArray) (a1 : ByteArray) : Option Int := if a0.size < 4294967281 ∧ a1.data.toList = [60, 62] then some (Lib.indexAny a0.data.toList [60, 62]) else none
theorem strings_IndexAny.calls (a0 : ByteArray) (a1 : ByteArray) (r : Int) (w : World) (h : strings_IndexAny.f a0 a1 = some r) :
  Calls Tryz.prog 77 #[.string a0, .string a1] w fun e w' => e = .returned (.int .i64 r) ∧ Below w.heap.size w w' := by
 unfold strings_IndexAny.f at h
 split at h
 ·next hc =>
  obtain rfl := Option.some.inj h
  obtain ⟨h1, h2⟩ := hc
  obtain rfl : a1 = ⟨#[60, 62]⟩ := by
   obtain ⟨⟨l⟩⟩ := a1
   simp only at h2
   rw [h2]
  by_cases h8 : a0.size ≤ 8
  ·have c : Calls Tryz.prog 77 #[.string a0, .string (⟨#[60, 62]⟩ : ByteArray)] w _ := Iw.IndexAny_short_wide Tryz.lays153 a0 w h8
   exact c
  ·have h116 : (Tryz.prog.info? (Tryz.lays153_ren.t 116)).map (fun i => (i.zero, i.size)) = some (some (.agg (Array.replicate 256 (.bool false))), 256) := by kernel_rfl
   have c : Calls Tryz.prog 77 #[.string a0, .string (⟨#[60, 62]⟩ : ByteArray)] w _ := Any.strings_IndexAny_long Tryz.lays153 (zero_of_info h116).1 (zero_of_info h116).2 a0 (⟨#[60, 62]⟩ : ByteArray) w (Nat.le_refl 2) (by omega) h1 (by decide) (fun j b hj => by
    have : j = 0 ∨ j = 1 ∨ 2 ≤ j := by omega
    rcases this with rfl | rfl | h
    ·cases hj; decide
    ·cases hj; decide
    ·rw [List.getElem?_eq_none (by simpa using h)] at hj; cases hj)
   refine c.mono fun e w' ⟨h3, h4⟩ => ⟨h3, ?_⟩
   rw [h4]
   exact ((Below.refl _ _).alloc (Nat.le_refl _) _).alloc (by simp) _
 ·cases h

/-! ### strconv_Atoi: function 78 -/
def strconv_Atoi.f (a0 : ByteArray) : Option (Int × Option Int) := if a0.size ≤ 281474976710656 then (match Lib.atoiAll a0.data.toList with | .ok v => some (v, none) | .range => some (Lib.atoiSat a0.data.toList, some 0) | _ => some (0, some 0)) else none
theorem strconv_Atoi.calls (a0 : ByteArray) (r1 : Int) (r2 : Option Int) (w : World) (hm : Dr.Tab w) (h : strconv_Atoi.f a0 = some (r1, r2)) :
  Calls Tryz.prog 78 #[.string a0] w fun e w' => ∃ q_ : Int, e = .returned (.tuple #[.int .i64 r1, errW (r2.map fun _ => q_)]) ∧ Below w.heap.size w w' := by
 unfold strconv_Atoi.f at h
 split at h
 ·next hs =>
  cases h0 : Lib.atoiAll a0.data.toList
  ·rename_i v
   rw [h0] at h
   simp only [Option.some.injEq, Prod.mk.injEq] at h
   obtain ⟨rfl, rfl⟩ := h
   have c : Calls Tryz.prog 78 #[.string a0] w _ := Any.strconv_Atoi_ok Tryz.laysC172 a0 (by omega) v h0 w
   exact c.mono fun e w' ⟨h1, h2⟩ => ⟨0, h1, by
    rcases h2 with rfl | ⟨t, rfl⟩
    ·exact Below.refl _ _
    ·exact Lib.bytesWorld_below _ _ _⟩
  ·rw [h0] at h
   simp only [Option.some.injEq, Prod.mk.injEq] at h
   obtain ⟨rfl, rfl⟩ := h
   obtain ⟨ev, hv, hev⟩ := hm.synt
   have c : Calls Tryz.prog 78 #[.string a0] w _ := Any.strconv_Atoi_syntax Tryz.laysC172 a0 hs h0 ev w hv hev
   exact c.mono fun e w' ⟨N, h1, _, _, h2⟩ => ⟨(N : Int), h1, h2⟩
  ·rw [h0] at h
   simp only [Option.some.injEq, Prod.mk.injEq] at h
   obtain ⟨rfl, rfl⟩ := h
   obtain ⟨ev, hv, hev⟩ := hm.rang
   have c : Calls Tryz.prog 78 #[.string a0] w _ := Any.strconv_Atoi_range Tryz.laysC172 a0 hs h0 ev w hv hev
   exact c.mono fun e w' ⟨N, h1, _, _, h2⟩ => ⟨(N : Int), h1, h2⟩
 ·cases h

end Go.Proofs.YtmhbcfdodcnjmaaGreatDoor.PFnSignalsReach
