-- Laid by xprint, a program of this session that runs over the kit's print.
import Derived.Test.YtonnpncccjpmaaaDoorPFnExactSignalTextx0
import Derived.Test.YtonnpncccjpmaaaDoorPFnExactSignalTextx1
namespace Go.Proofs.YtonnpncccjpmaaaDoor.PFnExactSignalText
open Go.RowKit Go.Proofs.YtonnpncccjpmaaaDoorW.PrintWords Go.Proofs.YtonnpncccjpmaaaDoorW.PrintLast Go.Proofs.YtonnpncccjpmaaaDoorW.PrintMore Go.Proofs.YtonnpncccjpmaaaDoor.Sq
attribute [local go_sem] max2_int min2_int max_two min_two max_three min_three max_four min_four   -- for this text's walks alone
set_option linter.unusedVariables false
set_option linter.unusedSimpArgs false

/-! ### impl_isSignal: function 15 -/
def impl_isSignal.f (a0 : Int) (a1_0 : Int) (a1_1 : Bool) (a1_2 : Int) : Option (Bool) := (impl_isSignalRow.f a0).bind fun t126 => (if t126 = true then ((impl_in.f a1_0 0 (wrap64 (a0 - 1))).bind fun t127 => (if t127 = true then ((impl_in.f a1_2 1 10).bind fun t128 => (some t128)) else (some false))) else (some false))
set_option maxHeartbeats 8000000 in
set_option maxRecDepth 100000 in
theorem impl_isSignal.calls (a0 : Int) (a1_0 : Int) (a1_1 : Bool) (a1_2 : Int) (r : Bool) (w : World) (h : impl_isSignal.f a0 a1_0 a1_1 a1_2 = some r) :
  Calls Tryd.prog 15 #[.int .i64 a0, .agg #[.int .i64 a1_0, .bool a1_1, .int .i64 a1_2]] w fun e w' => e = .returned (.bool r) ∧ Below w.heap.size w w' := by
 have hu26 := Tryd.underlying26
 have HB := Aside0.mk (Below.refl w.heap.size w)
 unfold impl_isSignal.f at h
 have H := h
 clear h
 replace H := Option.bind_eq_some_iff.mp H
 obtain ⟨t126, A30, H⟩ := H
 (try dsimp only at H)
 have A3 := Aside0.mk A30
 clear A30
 by_cases c4 : t126 = true
 ·subst c4
  rw [if_pos rfl] at H
  replace H := Option.bind_eq_some_iff.mp H
  obtain ⟨t127, A50, H⟩ := H
  (try dsimp only at H)
  have A5 := Aside0.mk A50
  clear A50
  by_cases c6 : t127 = true
  ·subst c6
   rw [if_pos rfl] at H
   replace H := Option.bind_eq_some_iff.mp H
   obtain ⟨t128, A70, H⟩ := H
   (try dsimp only at H)
   have A7 := Aside0.mk A70
   clear A70
   obtain rfl := Option.some.inj H
   go_enter Tryd.func15, Tryd.ntmps15
   go_wp2_with (first | ((with_reducible refine gate_dst (N := 3) rfl ?_); refine bx 3 26 #[.int .i64 a1_0, .bool a1_1, .int .i64 a1_2] ?_; intro gb125 hg w8 hbox hb; have BK125 := hbox; have GW125 := gs hg; have GE125 := gs hg; replace HB := bs hb; clear hb hbox hg) | ((with_reducible refine gate_callee (f := 27) rfl ?_); refine gl (some 6) Tryd.func27 #[.int .i64 a0] ?_; (with_reducible refine (impl_isSignalRow.calls a0 true _ A3.out).mono ?_); rintro e w' ⟨rfl, ⟨nd, rfl⟩⟩; refine ⟨_, rfl, ?_⟩; have hcz9_0 := bc BK125 0 (.int .i64 a1_0); have hcz9_1 := bc BK125 1 (.bool a1_1); have hcz9_2 := bc BK125 2 (.int .i64 a1_2); have hfz9_0 := blk_frozen BK125.out 0; have hfz9_1 := blk_frozen BK125.out 1; have hfz9_2 := blk_frozen BK125.out 2) | (go_at_call 28; (with_reducible refine (impl_in.calls a1_0 0 (wrap64 (a0 - 1)) true _ A5.out).mono ?_); rintro e w' ⟨rfl, ⟨nd, rfl⟩⟩) | (go_at_call 28; (with_reducible refine (impl_in.calls a1_2 1 10 t128 _ A7.out).mono ?_); rintro e w' ⟨rfl, ⟨nd, rfl⟩⟩))
   go_ret
   exact ⟨rs, bw⟩
  ·replace c6 := Bool.eq_false_iff.mpr c6
   subst c6
   rw [if_neg (show ¬ (false = true) by decide)] at H
   obtain rfl := Option.some.inj H
   go_enter Tryd.func15, Tryd.ntmps15
   go_wp2_with (first | ((with_reducible refine gate_dst (N := 3) rfl ?_); refine bx 3 26 #[.int .i64 a1_0, .bool a1_1, .int .i64 a1_2] ?_; intro gb125 hg w10 hbox hb; have BK125 := hbox; have GW125 := gs hg; have GE125 := gs hg; replace HB := bs hb; clear hb hbox hg) | ((with_reducible refine gate_callee (f := 27) rfl ?_); refine gl (some 6) Tryd.func27 #[.int .i64 a0] ?_; (with_reducible refine (impl_isSignalRow.calls a0 true _ A3.out).mono ?_); rintro e w' ⟨rfl, ⟨nd, rfl⟩⟩; refine ⟨_, rfl, ?_⟩; have hcz11_0 := bc BK125 0 (.int .i64 a1_0); have hcz11_1 := bc BK125 1 (.bool a1_1); have hcz11_2 := bc BK125 2 (.int .i64 a1_2); have hfz11_0 := blk_frozen BK125.out 0; have hfz11_1 := blk_frozen BK125.out 1; have hfz11_2 := blk_frozen BK125.out 2) | (go_at_call 28; (with_reducible refine (impl_in.calls a1_0 0 (wrap64 (a0 - 1)) false _ A5.out).mono ?_); rintro e w' ⟨rfl, ⟨nd, rfl⟩⟩))
   go_ret
   exact ⟨rs, bw⟩
 ·replace c4 := Bool.eq_false_iff.mpr c4
  subst c4
  rw [if_neg (show ¬ (false = true) by decide)] at H
  obtain rfl := Option.some.inj H
  go_enter Tryd.func15, Tryd.ntmps15
  go_wp2_with (first | ((with_reducible refine gate_dst (N := 3) rfl ?_); refine bx 3 26 #[.int .i64 a1_0, .bool a1_1, .int .i64 a1_2] ?_; intro gb125 hg w12 hbox hb; have BK125 := hbox; have GW125 := gs hg; have GE125 := gs hg; replace HB := bs hb; clear hb hbox hg) | ((with_reducible refine gate_callee (f := 27) rfl ?_); refine gl (some 6) Tryd.func27 #[.int .i64 a0] ?_; (with_reducible refine (impl_isSignalRow.calls a0 false _ A3.out).mono ?_); rintro e w' ⟨rfl, ⟨nd, rfl⟩⟩; refine ⟨_, rfl, ?_⟩))
  go_ret
  exact ⟨rs, bw⟩

/-! ### strconv_Itoa: function 29 -/
def strconv_Itoa.f (a0 : Int) : Option ByteArray := if 0 ≤ a0 ∧ a0 < 100 then some ⟨(Lib.decDigits a0.toNat).toArray⟩ else none
theorem strconv_Itoa.calls (a0 : Int) (r : ByteArray) (w : World) (h : strconv_Itoa.f a0 = some r) :
  Calls Tryd.prog 29 #[.int .i64 a0] w fun e w' => e = .returned (.string r) ∧ Below w.heap.size w w' := by
 unfold strconv_Itoa.f at h
 split at h
 ·next hc =>
  obtain rfl := Option.some.inj h
  obtain ⟨i, rfl⟩ : ∃ i : Nat, a0 = i := ⟨a0.toNat, by omega⟩
  have c : Calls Tryd.prog 29 #[.int .i64 (i : Int)] w _ := Any.strconv_Itoa_small Tryd.lays171 i (by omega) w
  exact c.mono fun e w' ⟨h1, h2⟩ => ⟨by rw [h1, Int.toNat_natCast], h2 ▸ Below.refl _ _⟩
 ·cases h

/-! ### impl_signalText: function 16 -/
def impl_signalText.f (a0_0 : Int) (a0_1 : Bool) (a0_2 : Int) : Option (ByteArray) := if a0_1 = true then ((strconv_Itoa.f a0_0).bind fun t130 => (if t130.size + 1 ≤ 9223372036854775807 then ((strconv_Itoa.f a0_2).bind fun t131 => (if (t130 ++ (⟨#[60]⟩ : ByteArray)).size + t131.size ≤ 9223372036854775807 then (some ((t130 ++ (⟨#[60]⟩ : ByteArray)) ++ t131)) else (none))) else (none))) else ((strconv_Itoa.f a0_0).bind fun t132 => (if t132.size + 1 ≤ 9223372036854775807 then ((strconv_Itoa.f a0_2).bind fun t133 => (if (t132 ++ (⟨#[62]⟩ : ByteArray)).size + t133.size ≤ 9223372036854775807 then (some ((t132 ++ (⟨#[62]⟩ : ByteArray)) ++ t133)) else (none))) else (none)))
def impl_signalText.T4 : Bool × List (List Nat × List Nat) := (true, [([], []), ([0], [0]), ([1], [1]), ([], []), ([2, 3], [2, 3]), ([], []), ([5], [5]), ([6, 2], [6]), ([4, 7], [4, 7]), ([8, 7, 0, 1, 2, 3, 4, 5, 6, 7, 8], [8])])
def impl_signalText.B4 : List Nat := [0, 1, 3, 0, 15, 0, 32, 103, 255, 511]
theorem impl_signalText.tab4 : rtab .any (opsOf Tryd.f16 4) = impl_signalText.T4 := by kernel_rfl
theorem impl_signalText.bits4 : waitsOk impl_signalText.T4.2 impl_signalText.B4 = true := by kernel_rfl
set_option maxHeartbeats 8000000 in
set_option maxRecDepth 100000 in
theorem impl_signalText.calls (a0_0 : Int) (a0_1 : Bool) (a0_2 : Int) (r : ByteArray) (w : World) (h : impl_signalText.f a0_0 a0_1 a0_2 = some r) :
  Calls Tryd.prog 16 #[.agg #[.int .i64 a0_0, .bool a0_1, .int .i64 a0_2]] w fun e w' => e = .returned (.string r) ∧ Below w.heap.size w w' := by
 have hu26 := Tryd.underlying26
 have HB := Aside0.mk (Below.refl w.heap.size w)
 unfold impl_signalText.f at h
 have H := h
 clear h
 by_cases c2 : a0_1 = true
 ·subst c2
  rw [if_pos rfl] at H
  replace H := Option.bind_eq_some_iff.mp H
  obtain ⟨t130, A30, H⟩ := H
  (try dsimp only at H)
  have A3 := Aside0.mk A30
  clear A30
  by_cases c4 : t130.size + 1 ≤ 9223372036854775807
  ·rw [if_pos c4] at H
   have c4b0 := eq_true c4
   have c4b1 : decide (t130.size + 1 ≤ 9223372036854775807) = true := decide_eq_true c4
   try have c4b2 : (9223372036854775807 < t130.size + 1) = False := eq_false (Nat.not_lt.2 c4)
   replace H := Option.bind_eq_some_iff.mp H
   obtain ⟨t131, A50, H⟩ := H
   (try dsimp only at H)
   have A5 := Aside0.mk A50
   clear A50
   by_cases c6 : (t130 ++ (⟨#[60]⟩ : ByteArray)).size + t131.size ≤ 9223372036854775807
   ·rw [if_pos c6] at H
    have c6b0 := eq_true c6
    have c6b1 : decide ((t130 ++ (⟨#[60]⟩ : ByteArray)).size + t131.size ≤ 9223372036854775807) = true := decide_eq_true c6
    try have c6b2 : (9223372036854775807 < (t130 ++ (⟨#[60]⟩ : ByteArray)).size + t131.size) = False := eq_false (Nat.not_lt.2 c6)
    try have c6b3 : (9223372036854775807 < t130.size + 1 + t131.size) = False := eq_false (by have h9_ := c6; clear H; simp only [ByteArray.size_append, ByteArray.size_extract] at h9_; simp only [eq_iff_iff, iff_true, iff_false] at *; have z9_ : (⟨#[60]⟩ : ByteArray).size = 1 := rfl; omega)
    obtain rfl := Option.some.inj H
    go_enter Tryd.func16, Tryd.ntmps16
    try go_wp2_with (first | ((with_reducible refine gate_dst (N := 1) rfl ?_); refine bx 1 26 #[.int .i64 a0_0, .bool true, .int .i64 a0_2] ?_; intro gb129 hg w7 hbox hb; have BK129 := hbox; have GW129 := gs hg; have GE129 := gs hg; replace HB := bs hb; clear hb hbox hg; have hcz8_0 := bc BK129 0 (.int .i64 a0_0); have hcz8_1 := bc BK129 1 (.bool true); have hcz8_2 := bc BK129 2 (.int .i64 a0_2); have hfz8_0 := blk_frozen BK129.out 0; have hfz8_1 := blk_frozen BK129.out 1; have hfz8_2 := blk_frozen BK129.out 2))
    replace BK129 := Aside0.mk (blk_drew BK129.out)
    replace HB := Aside0.mk (below_drew1 HB.out)
    refine start_ (n := 10) (S := fun w' => w'.cell? ⟨gb129, 0, none⟩ = some (.int .i64 a0_0) ∧ w'.cell? ⟨gb129, 1, none⟩ = some (.bool true) ∧ w'.cell? ⟨gb129, 2, none⟩ = some (.int .i64 a0_2)) (ds := []) #[false, false, false, false, false, false, false, false, false, false] (by kernel_rfl) rfl rfl ⟨ec BK129, ec BK129, ec BK129⟩ (fun hHeld => ?_); refine with_tabW impl_signalText.tab4 impl_signalText.bits4 (fun HT_ HW_ => ?_)
    generalize w7.drew = w9 at BK129 HB hHeld ⊢
    refine pu 0 (some 6) #[true, false, false, false, false, false, false, false, false, false] ?_
    refine pu 3 (some 9) #[true, false, false, true, false, false, false, false, false, false] ?_
    refine pu 5 (some 11) #[true, false, false, true, false, true, false, false, false, false] ?_
    refine take_ (i := 1) (N := some 7) (v := ?_) (a' := ?_) #[true, true, false, true, false, true, false, false, false, false] rfl rfl (take_ofW HT_.out HW_.out (by kernel_rfl)) (fun _ _ _ h => h) (Or.inl ⟨by rfl, ?_⟩) hHeld ?_ ?_
    rotate_left
    ·rintro w' ⟨s0, s1, s2⟩
     go_simp
     with_reducible rfl
    rotate_left
    ·simp only [Act.put, List.setIfInBounds_toArray, List.set_cons_zero, List.set_cons_succ, i64_w, i32_w]
     rfl
    refine take_ (i := 6) (N := some 12) (v := ?_) (a' := ?_) #[true, true, false, true, false, true, true, false, false, false] rfl rfl (take_ofW HT_.out HW_.out (by kernel_rfl)) (fun _ _ _ h => h) (Or.inl ⟨by rfl, ?_⟩) hHeld ?_ ?_
    rotate_left
    ·rintro w' ⟨s0, s1, s2⟩
     go_simp
     with_reducible rfl
    rotate_left
    ·simp only [Act.put, List.setIfInBounds_toArray, List.set_cons_zero, List.set_cons_succ, i64_w, i32_w]
     rfl
    refine one_ (i := 2) (N := some 8) #[true, true, true, true, false, true, true, false, false, false] rfl rfl (one_of HT_.out (by kernel_rfl)) (by decide) (fun K hK => ?_)
    refine goes_ Tryd.func29 (by kernel_rfl) rfl #[.int .i64 a0_0] (by rfl) rfl rfl (by (try simp only [List.map_toArray, List.map_cons, List.map_nil]); first | done | rfl | (simp only [List.length_drop, List.length_take]; rfl)) ?_
    with_reducible refine (strconv_Itoa.calls a0_0 t130 _ A3.out).mono ?_
    rintro e w10 ⟨rfl, hb⟩
    refine ⟨_, rfl, ?_⟩
    replace BK129 := nk BK129 hb
    replace HB := bs hb
    (try clear hb)
    refine hK.out _ _ ⟨ec BK129, ec BK129, ec BK129⟩ (fun hHeld => ?_)
    clear hK K
    refine nm (some 8) ?_
    refine pu 4 (some 10) #[true, true, true, true, true, true, true, false, false, false] ?_
    refine one_ (i := 7) (N := some 13) #[true, true, true, true, true, true, true, true, false, false] rfl rfl (one_of HT_.out (by kernel_rfl)) (by decide) (fun K hK => ?_)
    refine goes_ Tryd.func29 (by kernel_rfl) rfl #[.int .i64 a0_2] (by rfl) rfl rfl (by (try simp only [List.map_toArray, List.map_cons, List.map_nil]); first | done | rfl | (simp only [List.length_drop, List.length_take]; rfl)) ?_
    with_reducible refine (strconv_Itoa.calls a0_2 t131 _ A5.out).mono ?_
    rintro e w11 ⟨rfl, hb⟩
    refine ⟨_, rfl, ?_⟩
    replace BK129 := nk BK129 hb
    replace HB := bs hb
    (try clear hb)
    refine hK.out _ _ ⟨ec BK129, ec BK129, ec BK129⟩ (fun hHeld => ?_)
    clear hK K
    refine nm (some 13) ?_
    refine pu 8 (some 14) #[true, true, true, true, true, true, true, true, true, false] ?_
    refine pu 9 (some 2) #[true, true, true, true, true, true, true, true, true, true] ?_
    refine done_ (done_of HT_.out (by kernel_rfl)) ?_
    try go_wp2
    go_ret
    exact ⟨rs, bw⟩
   ·rw [if_neg c6] at H
    exact absurd H (by simp)
  ·rw [if_neg c4] at H
   exact absurd H (by simp)
 ·replace c2 := Bool.eq_false_iff.mpr c2
  subst c2
  rw [if_neg (show ¬ (false = true) by decide)] at H
  replace H := Option.bind_eq_some_iff.mp H
  obtain ⟨t132, A120, H⟩ := H
  (try dsimp only at H)
  have A12 := Aside0.mk A120
  clear A120
  by_cases c13 : t132.size + 1 ≤ 9223372036854775807
  ·rw [if_pos c13] at H
   have c13b0 := eq_true c13
   have c13b1 : decide (t132.size + 1 ≤ 9223372036854775807) = true := decide_eq_true c13
   try have c13b2 : (9223372036854775807 < t132.size + 1) = False := eq_false (Nat.not_lt.2 c13)
   replace H := Option.bind_eq_some_iff.mp H
   obtain ⟨t133, A140, H⟩ := H
   (try dsimp only at H)
   have A14 := Aside0.mk A140
   clear A140
   by_cases c15 : (t132 ++ (⟨#[62]⟩ : ByteArray)).size + t133.size ≤ 9223372036854775807
   ·rw [if_pos c15] at H
    have c15b0 := eq_true c15
    have c15b1 : decide ((t132 ++ (⟨#[62]⟩ : ByteArray)).size + t133.size ≤ 9223372036854775807) = true := decide_eq_true c15
    try have c15b2 : (9223372036854775807 < (t132 ++ (⟨#[62]⟩ : ByteArray)).size + t133.size) = False := eq_false (Nat.not_lt.2 c15)
    try have c15b3 : (9223372036854775807 < t132.size + 1 + t133.size) = False := eq_false (by have h9_ := c15; clear H; simp only [ByteArray.size_append, ByteArray.size_extract] at h9_; simp only [eq_iff_iff, iff_true, iff_false] at *; have z9_ : (⟨#[62]⟩ : ByteArray).size = 1 := rfl; omega)
    obtain rfl := Option.some.inj H
    go_enter Tryd.func16, Tryd.ntmps16
    try go_wp2_with (first | ((with_reducible refine gate_dst (N := 1) rfl ?_); refine bx 1 26 #[.int .i64 a0_0, .bool false, .int .i64 a0_2] ?_; intro gb129 hg w16 hbox hb; have BK129 := hbox; have GW129 := gs hg; have GE129 := gs hg; replace HB := bs hb; clear hb hbox hg; have hcz17_0 := bc BK129 0 (.int .i64 a0_0); have hcz17_1 := bc BK129 1 (.bool false); have hcz17_2 := bc BK129 2 (.int .i64 a0_2); have hfz17_0 := blk_frozen BK129.out 0; have hfz17_1 := blk_frozen BK129.out 1; have hfz17_2 := blk_frozen BK129.out 2))
    replace BK129 := Aside0.mk (blk_drew BK129.out)
    replace HB := Aside0.mk (below_drew1 HB.out)
    refine start_ (n := 10) (S := fun w' => w'.cell? ⟨gb129, 0, none⟩ = some (.int .i64 a0_0) ∧ w'.cell? ⟨gb129, 1, none⟩ = some (.bool false) ∧ w'.cell? ⟨gb129, 2, none⟩ = some (.int .i64 a0_2)) (ds := []) #[false, false, false, false, false, false, false, false, false, false] (by kernel_rfl) rfl rfl ⟨ec BK129, ec BK129, ec BK129⟩ (fun hHeld => ?_); refine with_tabW impl_signalText.tab4 impl_signalText.bits4 (fun HT_ HW_ => ?_)
    generalize w16.drew = w18 at BK129 HB hHeld ⊢
    refine pu 0 (some 6) #[true, false, false, false, false, false, false, false, false, false] ?_
    refine pu 3 (some 9) #[true, false, false, true, false, false, false, false, false, false] ?_
    refine pu 5 (some 11) #[true, false, false, true, false, true, false, false, false, false] ?_
    refine take_ (i := 1) (N := some 7) (v := ?_) (a' := ?_) #[true, true, false, true, false, true, false, false, false, false] rfl rfl (take_ofW HT_.out HW_.out (by kernel_rfl)) (fun _ _ _ h => h) (Or.inl ⟨by rfl, ?_⟩) hHeld ?_ ?_
    rotate_left
    ·rintro w' ⟨s0, s1, s2⟩
     go_simp
     with_reducible rfl
    rotate_left
    ·simp only [Act.put, List.setIfInBounds_toArray, List.set_cons_zero, List.set_cons_succ, i64_w, i32_w]
     rfl
    refine take_ (i := 6) (N := some 12) (v := ?_) (a' := ?_) #[true, true, false, true, false, true, true, false, false, false] rfl rfl (take_ofW HT_.out HW_.out (by kernel_rfl)) (fun _ _ _ h => h) (Or.inl ⟨by rfl, ?_⟩) hHeld ?_ ?_
    rotate_left
    ·rintro w' ⟨s0, s1, s2⟩
     go_simp
     with_reducible rfl
    rotate_left
    ·simp only [Act.put, List.setIfInBounds_toArray, List.set_cons_zero, List.set_cons_succ, i64_w, i32_w]
     rfl
    refine one_ (i := 2) (N := some 8) #[true, true, true, true, false, true, true, false, false, false] rfl rfl (one_of HT_.out (by kernel_rfl)) (by decide) (fun K hK => ?_)
    refine goes_ Tryd.func29 (by kernel_rfl) rfl #[.int .i64 a0_0] (by rfl) rfl rfl (by (try simp only [List.map_toArray, List.map_cons, List.map_nil]); first | done | rfl | (simp only [List.length_drop, List.length_take]; rfl)) ?_
    with_reducible refine (strconv_Itoa.calls a0_0 t132 _ A12.out).mono ?_
    rintro e w19 ⟨rfl, hb⟩
    refine ⟨_, rfl, ?_⟩
    replace BK129 := nk BK129 hb
    replace HB := bs hb
    (try clear hb)
    refine hK.out _ _ ⟨ec BK129, ec BK129, ec BK129⟩ (fun hHeld => ?_)
    clear hK K
    refine nm (some 8) ?_
    refine pu 4 (some 10) #[true, true, true, true, true, true, true, false, false, false] ?_
    refine one_ (i := 7) (N := some 13) #[true, true, true, true, true, true, true, true, false, false] rfl rfl (one_of HT_.out (by kernel_rfl)) (by decide) (fun K hK => ?_)
    refine goes_ Tryd.func29 (by kernel_rfl) rfl #[.int .i64 a0_2] (by rfl) rfl rfl (by (try simp only [List.map_toArray, List.map_cons, List.map_nil]); first | done | rfl | (simp only [List.length_drop, List.length_take]; rfl)) ?_
    with_reducible refine (strconv_Itoa.calls a0_2 t133 _ A14.out).mono ?_
    rintro e w20 ⟨rfl, hb⟩
    refine ⟨_, rfl, ?_⟩
    replace BK129 := nk BK129 hb
    replace HB := bs hb
    (try clear hb)
    refine hK.out _ _ ⟨ec BK129, ec BK129, ec BK129⟩ (fun hHeld => ?_)
    clear hK K
    refine nm (some 13) ?_
    refine pu 8 (some 14) #[true, true, true, true, true, true, true, true, true, false] ?_
    refine pu 9 (some 2) #[true, true, true, true, true, true, true, true, true, true] ?_
    refine done_ (done_of HT_.out (by kernel_rfl)) ?_
    try go_wp2
    go_ret
    exact ⟨rs, bw⟩
   ·rw [if_neg c15] at H
    exact absurd H (by simp)
  ·rw [if_neg c13] at H
   exact absurd H (by simp)

/-! ### impl_SignalText: function 7 -/
def impl_SignalText.f (a0_0 : Int) (a0_1 : Bool) (a0_2 : Int) : Option (ByteArray × Bool) := (impl_isSignal.f 100 a0_0 a0_1 a0_2).bind fun t135 => (if t135 = true then ((impl_signalText.f a0_0 a0_1 a0_2).bind fun t136 => (some (t136, true))) else (some ((⟨#[]⟩ : ByteArray), false)))
set_option maxHeartbeats 8000000 in
set_option maxRecDepth 100000 in
theorem impl_SignalText.calls (a0_0 : Int) (a0_1 : Bool) (a0_2 : Int) (r1 : ByteArray) (r2 : Bool) (w : World) (h : impl_SignalText.f a0_0 a0_1 a0_2 = some (r1, r2)) :
  Calls Tryd.prog 7 #[.agg #[.int .i64 a0_0, .bool a0_1, .int .i64 a0_2]] w fun e w' => e = .returned (.tuple #[.string r1, .bool r2]) ∧ Below w.heap.size w w' := by
 have hu26 := Tryd.underlying26
 have HB := Aside0.mk (Below.refl w.heap.size w)
 unfold impl_SignalText.f at h
 have H := h
 clear h
 replace H := Option.bind_eq_some_iff.mp H
 obtain ⟨t135, A20, H⟩ := H
 (try dsimp only at H)
 have A2 := Aside0.mk A20
 clear A20
 by_cases c3 : t135 = true
 ·subst c3
  rw [if_pos rfl] at H
  replace H := Option.bind_eq_some_iff.mp H
  obtain ⟨t136, A40, H⟩ := H
  (try dsimp only at H)
  have A4 := Aside0.mk A40
  clear A40
  simp only [Option.some.injEq, Prod.mk.injEq] at H
  obtain ⟨rfl, rfl⟩ := H
  go_enter Tryd.func7, Tryd.ntmps7
  go_wp2_with (first | ((with_reducible refine gate_dst (N := 1) rfl ?_); refine bx 1 26 #[.int .i64 a0_0, .bool a0_1, .int .i64 a0_2] ?_; intro gb134 hg w5 hbox hb; have BK134 := hbox; have GW134 := gs hg; have GE134 := gs hg; replace HB := bs hb; clear hb hbox hg; have hcz6_0 := bc BK134 0 (.int .i64 a0_0); have hcz6_1 := bc BK134 1 (.bool a0_1); have hcz6_2 := bc BK134 2 (.int .i64 a0_2); have hfz6_0 := blk_frozen BK134.out 0; have hfz6_1 := blk_frozen BK134.out 1; have hfz6_2 := blk_frozen BK134.out 2) | ((with_reducible refine gate_callee (f := 15) rfl ?_); refine gl (some 5) Tryd.func15 #[.int .i64 100, .agg #[.int .i64 a0_0, .bool a0_1, .int .i64 a0_2]] ?_; (with_reducible refine (impl_isSignal.calls 100 a0_0 a0_1 a0_2 true _ A2.out).mono ?_); rintro e w7 ⟨rfl, hb⟩; refine ⟨_, rfl, ?_⟩; replace BK134 := nk BK134 hb; replace HB := bs hb; (try clear hb); have hcz8_0 := bc BK134 0 (.int .i64 a0_0); have hcz8_1 := bc BK134 1 (.bool a0_1); have hcz8_2 := bc BK134 2 (.int .i64 a0_2); have hfz8_0 := blk_frozen BK134.out 0; have hfz8_1 := blk_frozen BK134.out 1; have hfz8_2 := blk_frozen BK134.out 2) | ((with_reducible refine gate_callee (f := 16) rfl ?_); refine gl (some 8) Tryd.func16 #[.agg #[.int .i64 a0_0, .bool a0_1, .int .i64 a0_2]] ?_; (with_reducible refine (impl_signalText.calls a0_0 a0_1 a0_2 t136 _ A4.out).mono ?_); rintro e w9 ⟨rfl, hb⟩; refine ⟨_, rfl, ?_⟩; replace BK134 := nk BK134 hb; replace HB := bs hb; (try clear hb)))
  go_ret2
  exact ⟨rs, bw⟩
 ·replace c3 := Bool.eq_false_iff.mpr c3
  subst c3
  rw [if_neg (show ¬ (false = true) by decide)] at H
  simp only [Option.some.injEq, Prod.mk.injEq] at H
  obtain ⟨rfl, rfl⟩ := H
  go_enter Tryd.func7, Tryd.ntmps7
  go_wp2_with (first | ((with_reducible refine gate_dst (N := 1) rfl ?_); refine bx 1 26 #[.int .i64 a0_0, .bool a0_1, .int .i64 a0_2] ?_; intro gb134 hg w10 hbox hb; have BK134 := hbox; have GW134 := gs hg; have GE134 := gs hg; replace HB := bs hb; clear hb hbox hg; have hcz11_0 := bc BK134 0 (.int .i64 a0_0); have hcz11_1 := bc BK134 1 (.bool a0_1); have hcz11_2 := bc BK134 2 (.int .i64 a0_2); have hfz11_0 := blk_frozen BK134.out 0; have hfz11_1 := blk_frozen BK134.out 1; have hfz11_2 := blk_frozen BK134.out 2) | ((with_reducible refine gate_callee (f := 15) rfl ?_); refine gl (some 5) Tryd.func15 #[.int .i64 100, .agg #[.int .i64 a0_0, .bool a0_1, .int .i64 a0_2]] ?_; (with_reducible refine (impl_isSignal.calls 100 a0_0 a0_1 a0_2 false _ A2.out).mono ?_); rintro e w12 ⟨rfl, hb⟩; refine ⟨_, rfl, ?_⟩; replace BK134 := nk BK134 hb; replace HB := bs hb; (try clear hb)))
  go_ret2
  exact ⟨rs, bw⟩

/-! ### laws_FnExactSignalText: function 3 -/
def laws_FnExactSignalText.f (k : Nat) (a0_0 : Int) (a0_1 : Bool) (a0_2 : Int) : Option (Bool) := (laws_toSignal.f a0_0 a0_1 a0_2).bind fun bt138 => ((spec_SignalText.f k bt138.1 bt138.2.1 bt138.2.2).bind fun bt141 => ((laws_toSignal.f a0_0 a0_1 a0_2).bind fun bt143 => ((impl_SignalText.f bt143.1 bt143.2.1 bt143.2.2).bind fun bt146 => (if bt146.1.toList = bt141.1.toList then (if (bt146.2 != bt141.2) = true then (some false) else (some true)) else (some false)))))
theorem laws_FnExactSignalText.mono : ∀ a0 a1 a2 k, LeO (laws_FnExactSignalText.f k a0 a1 a2) (laws_FnExactSignalText.f (k + 1) a0 a1 a2) := by
  intro a0 a1 a2 k
  unfold laws_FnExactSignalText.f
  repeat' first
      | (with_reducible exact spec_SignalText.mono _ _ _ _)
      | (with_reducible exact LeO.refl _)
      | (with_reducible exact LeO.none _)
      | (with_reducible refine LeO.ite ?_ ?_)
      | (with_reducible refine LeO.bind ?_ (fun _ => ?_))
      | exact spec_SignalText.mono _ _ _ _
      | exact LeO.none _
      | refine LeO.ite ?_ ?_
      | refine LeO.bind ?_ (fun _ => ?_)
set_option maxHeartbeats 8000000 in
set_option maxRecDepth 100000 in
theorem laws_FnExactSignalText.calls (k : Nat) (a0_0 : Int) (a0_1 : Bool) (a0_2 : Int) (r : Bool) (w : World) (hrt : r = true) (h : laws_FnExactSignalText.f k a0_0 a0_1 a0_2 = some r) :
  Calls Tryd.prog 3 #[.agg #[.int .i64 a0_0, .bool a0_1, .int .i64 a0_2]] w fun e w' => e = .returned (.bool r) ∧ Below w.heap.size w w' := by
 have hu23 := Tryd.underlying23
 have HB := Aside0.mk (Below.refl w.heap.size w)
 have HRT := Aside0.mk hrt
 clear hrt
 unfold laws_FnExactSignalText.f at h
 have H := h
 clear h
 replace H := Option.bind_eq_some_iff.mp H
 obtain ⟨⟨t138, t139, t140⟩, A20, H⟩ := H
 (try dsimp only at H)
 have A2 := Aside0.mk A20
 clear A20
 replace H := Option.bind_eq_some_iff.mp H
 obtain ⟨⟨t141, t142⟩, A30, H⟩ := H
 (try dsimp only at H)
 have A3 := Aside0.mk A30
 clear A30
 replace H := Option.bind_eq_some_iff.mp H
 obtain ⟨⟨t143, t144, t145⟩, A40, H⟩ := H
 (try dsimp only at H)
 have A4 := Aside0.mk A40
 clear A40
 replace H := Option.bind_eq_some_iff.mp H
 obtain ⟨⟨t146, t147⟩, A50, H⟩ := H
 (try dsimp only at H)
 have A5 := Aside0.mk A50
 clear A50
 by_cases c6 : t146.toList = t141.toList
 ·rw [if_pos c6] at H
  have c6b0 : (t146.toList == t141.toList) = true := beq_iff_eq.mpr c6
  have c6b1 : (t146.toList != t141.toList) = false := bne_eq_false_iff_eq.mpr c6
  clear c6
  by_cases c7 : (t147 != t142) = true
  ·rw [if_pos c7] at H
   have c7b0 : (t147 != t142) = true := c7
   (try (have c7b1 : decide (t147 = t142) = false := by simpa using c7))
   (try (have c7b2 : (t147 == t142) = false := by simpa using c7))
   (try (have c7b3 : ¬ (t147 = t142) := by simpa using c7))
   clear c7
   exact absurd (Option.some.inj H) (by rw [HRT.out]; decide)
  ·rw [if_neg c7] at H
   have c7b0 : (t147 != t142) = false := by simpa using c7
   (try (have c7b1 : decide (t147 = t142) = true := by simpa using c7))
   (try (have c7b2 : (t147 == t142) = true := by simpa using c7))
   clear c7
   obtain rfl := Option.some.inj H
   go_enter Tryd.func3, Tryd.ntmps3
   go_wp2_with (first | ((with_reducible refine gate_dst (N := 1) rfl ?_); refine bx 1 23 #[.int .i64 a0_0, .bool a0_1, .int .i64 a0_2] ?_; intro gb137 hg w8 hbox hb; have BK137 := hbox; have GW137 := gs hg; have GE137 := gs hg; replace HB := bs hb; clear hb hbox hg; have hcz9_0 := bc BK137 0 (.int .i64 a0_0); have hcz9_1 := bc BK137 1 (.bool a0_1); have hcz9_2 := bc BK137 2 (.int .i64 a0_2); have hfz9_0 := blk_frozen BK137.out 0; have hfz9_1 := blk_frozen BK137.out 1; have hfz9_2 := blk_frozen BK137.out 2) | ((with_reducible refine gate_callee (f := 6) rfl ?_); refine gl (some 9) Tryd.func6 #[.agg #[.int .i64 a0_0, .bool a0_1, .int .i64 a0_2]] ?_; (with_reducible refine (laws_toSignal.calls a0_0 a0_1 a0_2 t138 t139 t140 _ A2.out).mono ?_); rintro e w10 ⟨rfl, hb⟩; refine ⟨_, rfl, ?_⟩; replace BK137 := nk BK137 hb; replace HB := bs hb; (try clear hb)) | ((with_reducible refine gate_callee (f := 5) rfl ?_); refine gl (some 10) Tryd.func5 #[.agg #[.int .i64 t138, .bool t139, .int .i64 t140]] ?_; (with_reducible refine (spec_SignalText.calls k t138 t139 t140 t141 t142 _ A3.out).mono ?_); rintro e w11 ⟨rfl, hb⟩; refine ⟨_, rfl, ?_⟩; replace BK137 := nk BK137 hb; replace HB := bs hb; (try clear hb); have hcz12_0 := bc BK137 0 (.int .i64 a0_0); have hcz12_1 := bc BK137 1 (.bool a0_1); have hcz12_2 := bc BK137 2 (.int .i64 a0_2); have hfz12_0 := blk_frozen BK137.out 0; have hfz12_1 := blk_frozen BK137.out 1; have hfz12_2 := blk_frozen BK137.out 2) | ((with_reducible refine gate_callee (f := 6) rfl ?_); refine gl (some 15) Tryd.func6 #[.agg #[.int .i64 a0_0, .bool a0_1, .int .i64 a0_2]] ?_; (with_reducible refine (laws_toSignal.calls a0_0 a0_1 a0_2 t143 t144 t145 _ A4.out).mono ?_); rintro e w13 ⟨rfl, hb⟩; refine ⟨_, rfl, ?_⟩; replace BK137 := nk BK137 hb; replace HB := bs hb; (try clear hb)) | ((with_reducible refine gate_callee (f := 7) rfl ?_); refine gl (some 16) Tryd.func7 #[.agg #[.int .i64 t143, .bool t144, .int .i64 t145]] ?_; (with_reducible refine (impl_SignalText.calls t143 t144 t145 t146 t147 _ A5.out).mono ?_); rintro e w14 ⟨rfl, hb⟩; refine ⟨_, rfl, ?_⟩; replace BK137 := nk BK137 hb; replace HB := bs hb; (try clear hb)))
   go_ret
   exact ⟨rs, bw⟩
 ·rw [if_neg c6] at H
  have c6b0 : (t146.toList == t141.toList) = false := beq_eq_false_iff_ne.mpr c6
  have c6b1 : (t146.toList != t141.toList) = true := bne_iff_ne.mpr c6
  exact absurd (Option.some.inj H) (by rw [HRT.out]; decide)

end Go.Proofs.YtonnpncccjpmaaaDoor.PFnExactSignalText
