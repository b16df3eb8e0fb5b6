-- Laid by xprint, a program of this session that runs over the kit's print.
import Derived.Test.YtilaakmggfjcbaaDoorPFnExactParseSignalx0
import Derived.Test.YtilaakmggfjcbaaDoorPFnExactParseSignalx3
namespace Go.Proofs.YtilaakmggfjcbaaDoor.PFnExactParseSignal
open Go.RowKit Go.Proofs.YtilaakmggfjcbaaDoorW.PrintWords Go.Proofs.YtilaakmggfjcbaaDoorW.PrintLast Go.Proofs.YtilaakmggfjcbaaDoorW.PrintMore Go.Proofs.YtilaakmggfjcbaaDoor.Sq
attribute [local go_sem] max2_int min2_int max_two min_two max_three min_three max_four min_four   -- for this text's walks alone
set_option linter.unusedVariables false
set_option linter.unusedSimpArgs false

/-! ### strings_IndexAny: function 10 -/
def strings_IndexAny.f (a0 : ByteArray) (a1 : ByteArray) : Option Int := if a0.size < 4294967281 ∧ a1.data.toList = [60, 62] then some (Lib.indexAny a0.data.toList [60, 62]) else none
theorem strings_IndexAny.calls (a0 : ByteArray) (a1 : ByteArray) (r : Int) (w : World) (h : strings_IndexAny.f a0 a1 = some r) :
  Calls Tryd.prog 10 #[.string a0, .string a1] w fun e w' => e = .returned (.int .i64 r) ∧ Below w.heap.size w w' := by
 unfold strings_IndexAny.f at h
 split at h
 ·next hc =>
  obtain rfl := Option.some.inj h
  obtain ⟨h1, h2⟩ := hc
  obtain rfl : a1 = ⟨#[60, 62]⟩ := by
   obtain ⟨⟨l⟩⟩ := a1
   simp only at h2
   rw [h2]
  by_cases h8 : a0.size ≤ 8
  ·have c : Calls Tryd.prog 10 #[.string a0, .string (⟨#[60, 62]⟩ : ByteArray)] w _ := Iw.IndexAny_short_wide Tryd.lays153 a0 w h8
   exact c
  ·have h116 : (Tryd.prog.info? (Tryd.lays153_ren.t 116)).map (fun i => (i.zero, i.size)) = some (some (.agg (Array.replicate 256 (.bool false))), 256) := by kernel_rfl
   have c : Calls Tryd.prog 10 #[.string a0, .string (⟨#[60, 62]⟩ : ByteArray)] w _ := Any.strings_IndexAny_long Tryd.lays153 (zero_of_info h116).1 (zero_of_info h116).2 a0 (⟨#[60, 62]⟩ : ByteArray) w (Nat.le_refl 2) (by omega) h1 (by decide) (fun j b hj => by
    have : j = 0 ∨ j = 1 ∨ 2 ≤ j := by omega
    rcases this with rfl | rfl | h
    ·cases hj; decide
    ·cases hj; decide
    ·rw [List.getElem?_eq_none (by simpa using h)] at hj; cases hj)
   refine c.mono fun e w' ⟨h3, h4⟩ => ⟨h3, ?_⟩
   rw [h4]
   exact ((Below.refl _ _).alloc (Nat.le_refl _) _).alloc (by simp) _
 ·cases h

/-! ### strconv_Atoi: function 11 -/
def strconv_Atoi.f (a0 : ByteArray) : Option (Int × Option Int) := if a0.size ≤ 281474976710656 then (match Lib.atoiAll a0.data.toList with | .ok v => some (v, none) | .range => some (Lib.atoiSat a0.data.toList, some 0) | _ => some (0, some 0)) else none
theorem strconv_Atoi.calls (a0 : ByteArray) (r1 : Int) (r2 : Option Int) (w : World) (hm : Dr.Tab w) (h : strconv_Atoi.f a0 = some (r1, r2)) :
  Calls Tryd.prog 11 #[.string a0] w fun e w' => ∃ q_ : Int, e = .returned (.tuple #[.int .i64 r1, errW (r2.map fun _ => q_)]) ∧ Below w.heap.size w w' := by
 unfold strconv_Atoi.f at h
 split at h
 ·next hs =>
  cases h0 : Lib.atoiAll a0.data.toList
  ·rename_i v
   rw [h0] at h
   simp only [Option.some.injEq, Prod.mk.injEq] at h
   obtain ⟨rfl, rfl⟩ := h
   have c : Calls Tryd.prog 11 #[.string a0] w _ := Any.strconv_Atoi_ok Tryd.laysC172 a0 (by omega) v h0 w
   exact c.mono fun e w' ⟨h1, h2⟩ => ⟨0, h1, by
    rcases h2 with rfl | ⟨t, rfl⟩
    ·exact Below.refl _ _
    ·exact Lib.bytesWorld_below _ _ _⟩
  ·rw [h0] at h
   simp only [Option.some.injEq, Prod.mk.injEq] at h
   obtain ⟨rfl, rfl⟩ := h
   obtain ⟨ev, hv, hev⟩ := hm.synt
   have c : Calls Tryd.prog 11 #[.string a0] w _ := Any.strconv_Atoi_syntax Tryd.laysC172 a0 hs h0 ev w hv hev
   exact c.mono fun e w' ⟨N, h1, _, _, h2⟩ => ⟨(N : Int), h1, h2⟩
  ·rw [h0] at h
   simp only [Option.some.injEq, Prod.mk.injEq] at h
   obtain ⟨rfl, rfl⟩ := h
   obtain ⟨ev, hv, hev⟩ := hm.rang
   have c : Calls Tryd.prog 11 #[.string a0] w _ := Any.strconv_Atoi_range Tryd.laysC172 a0 hs h0 ev w hv hev
   exact c.mono fun e w' ⟨N, h1, _, _, h2⟩ => ⟨(N : Int), h1, h2⟩
 ·cases h

/-! ### impl_in: function 24 -/
def impl_in.f (a0 : Int) (a1 : Int) (a2 : Int) : Option (Bool) := if a1 ≤ a0 then (some (decide (a0 ≤ a2))) else (some false)
set_option maxHeartbeats 8000000 in
set_option maxRecDepth 100000 in
theorem impl_in.calls (a0 : Int) (a1 : Int) (a2 : Int) (r : Bool) (w : World) (h : impl_in.f a0 a1 a2 = some r) :
  Calls Tryd.prog 24 #[.int .i64 a0, .int .i64 a1, .int .i64 a2] w fun e w' => e = .returned (.bool r) ∧ Drawn0 w w' := by
 unfold impl_in.f at h
 have H := h
 clear h
 by_cases c4 : a1 ≤ a0
 ·rw [if_pos c4] at H
  have c4b0 : decide (a1 ≤ a0) = true := decide_eq_true c4
  clear c4
  obtain rfl := Option.some.inj H
  go_enter Tryd.func24, Tryd.ntmps24
  go_wp2
  go_ret
  exact ⟨rs, by repeat (first | exact Drawn0.refl _ | apply Drawn0.step)⟩
 ·rw [if_neg c4] at H
  have c4b0 : decide (a1 ≤ a0) = false := decide_eq_false c4
  clear c4
  obtain rfl := Option.some.inj H
  go_enter Tryd.func24, Tryd.ntmps24
  go_wp2
  go_ret
  exact ⟨rs, by repeat (first | exact Drawn0.refl _ | apply Drawn0.step)⟩

/-! ### impl_isSignalRow: function 23 -/
def impl_isSignalRow.f (a0 : Int) : Option (Bool) := (impl_in.f a0 1 100).bind fun t125 => (some t125)
set_option maxHeartbeats 8000000 in
set_option maxRecDepth 100000 in
theorem impl_isSignalRow.calls (a0 : Int) (r : Bool) (w : World) (h : impl_isSignalRow.f a0 = some r) :
  Calls Tryd.prog 23 #[.int .i64 a0] w fun e w' => e = .returned (.bool r) ∧ Drawn0 w w' := by
 unfold impl_isSignalRow.f at h
 have H := h
 clear h
 replace H := Option.bind_eq_some_iff.mp H
 obtain ⟨t125, A20, H⟩ := H
 (try dsimp only at H)
 have A2 := Aside0.mk A20
 clear A20
 obtain rfl := Option.some.inj H
 go_enter Tryd.func23, Tryd.ntmps23
 go_wp2_with (first | ((with_reducible refine gate_callee (f := 24) rfl ?_); refine gl (some 4) Tryd.func24 #[.int .i64 a0, .int .i64 1, .int .i64 100] ?_; (with_reducible refine (impl_in.calls a0 1 100 t125 _ A2.out).mono ?_); rintro e w' ⟨rfl, ⟨nd, rfl⟩⟩; refine ⟨_, rfl, ?_⟩))
 go_ret
 exact ⟨rs, by repeat (first | exact Drawn0.refl _ | apply Drawn0.step)⟩

/-! ### impl_isSignal: function 12 -/
def impl_isSignal.f (a0 : Int) (a1_0 : Int) (a1_1 : Bool) (a1_2 : Int) : Option (Bool) := (impl_isSignalRow.f a0).bind fun t127 => (if t127 = true then ((impl_in.f a1_0 0 (wrap64 (a0 - 1))).bind fun t128 => (if t128 = true then ((impl_in.f a1_2 1 10).bind fun t129 => (some t129)) else (some false))) else (some false))
set_option maxHeartbeats 8000000 in
set_option maxRecDepth 100000 in
theorem impl_isSignal.calls (a0 : Int) (a1_0 : Int) (a1_1 : Bool) (a1_2 : Int) (r : Bool) (w : World) (h : impl_isSignal.f a0 a1_0 a1_1 a1_2 = some r) :
  Calls Tryd.prog 12 #[.int .i64 a0, .agg #[.int .i64 a1_0, .bool a1_1, .int .i64 a1_2]] w fun e w' => e = .returned (.bool r) ∧ Below w.heap.size w w' := by
 have hu23 := Tryd.underlying23
 have HB := Aside0.mk (Below.refl w.heap.size w)
 unfold impl_isSignal.f at h
 have H := h
 clear h
 replace H := Option.bind_eq_some_iff.mp H
 obtain ⟨t127, A30, H⟩ := H
 (try dsimp only at H)
 have A3 := Aside0.mk A30
 clear A30
 by_cases c4 : t127 = true
 ·subst c4
  rw [if_pos rfl] at H
  replace H := Option.bind_eq_some_iff.mp H
  obtain ⟨t128, A50, H⟩ := H
  (try dsimp only at H)
  have A5 := Aside0.mk A50
  clear A50
  by_cases c6 : t128 = true
  ·subst c6
   rw [if_pos rfl] at H
   replace H := Option.bind_eq_some_iff.mp H
   obtain ⟨t129, A70, H⟩ := H
   (try dsimp only at H)
   have A7 := Aside0.mk A70
   clear A70
   obtain rfl := Option.some.inj H
   go_enter Tryd.func12, Tryd.ntmps12
   go_wp2_with (first | ((with_reducible refine gate_dst (N := 3) rfl ?_); refine bx 3 23 #[.int .i64 a1_0, .bool a1_1, .int .i64 a1_2] ?_; intro gb126 hg w8 hbox hb; have BK126 := hbox; have GW126 := gs hg; have GE126 := gs hg; replace HB := bs hb; clear hb hbox hg) | ((with_reducible refine gate_callee (f := 23) rfl ?_); refine gl (some 6) Tryd.func23 #[.int .i64 a0] ?_; (with_reducible refine (impl_isSignalRow.calls a0 true _ A3.out).mono ?_); rintro e w' ⟨rfl, ⟨nd, rfl⟩⟩; refine ⟨_, rfl, ?_⟩; have hcz9_0 := bc BK126 0 (.int .i64 a1_0); have hcz9_1 := bc BK126 1 (.bool a1_1); have hcz9_2 := bc BK126 2 (.int .i64 a1_2); have hfz9_0 := blk_frozen BK126.out 0; have hfz9_1 := blk_frozen BK126.out 1; have hfz9_2 := blk_frozen BK126.out 2) | (go_at_call 24; (with_reducible refine (impl_in.calls a1_0 0 (wrap64 (a0 - 1)) true _ A5.out).mono ?_); rintro e w' ⟨rfl, ⟨nd, rfl⟩⟩) | (go_at_call 24; (with_reducible refine (impl_in.calls a1_2 1 10 t129 _ A7.out).mono ?_); rintro e w' ⟨rfl, ⟨nd, rfl⟩⟩))
   go_ret
   exact ⟨rs, bw⟩
  ·replace c6 := Bool.eq_false_iff.mpr c6
   subst c6
   rw [if_neg (show ¬ (false = true) by decide)] at H
   obtain rfl := Option.some.inj H
   go_enter Tryd.func12, Tryd.ntmps12
   go_wp2_with (first | ((with_reducible refine gate_dst (N := 3) rfl ?_); refine bx 3 23 #[.int .i64 a1_0, .bool a1_1, .int .i64 a1_2] ?_; intro gb126 hg w10 hbox hb; have BK126 := hbox; have GW126 := gs hg; have GE126 := gs hg; replace HB := bs hb; clear hb hbox hg) | ((with_reducible refine gate_callee (f := 23) rfl ?_); refine gl (some 6) Tryd.func23 #[.int .i64 a0] ?_; (with_reducible refine (impl_isSignalRow.calls a0 true _ A3.out).mono ?_); rintro e w' ⟨rfl, ⟨nd, rfl⟩⟩; refine ⟨_, rfl, ?_⟩; have hcz11_0 := bc BK126 0 (.int .i64 a1_0); have hcz11_1 := bc BK126 1 (.bool a1_1); have hcz11_2 := bc BK126 2 (.int .i64 a1_2); have hfz11_0 := blk_frozen BK126.out 0; have hfz11_1 := blk_frozen BK126.out 1; have hfz11_2 := blk_frozen BK126.out 2) | (go_at_call 24; (with_reducible refine (impl_in.calls a1_0 0 (wrap64 (a0 - 1)) false _ A5.out).mono ?_); rintro e w' ⟨rfl, ⟨nd, rfl⟩⟩))
   go_ret
   exact ⟨rs, bw⟩
 ·replace c4 := Bool.eq_false_iff.mpr c4
  subst c4
  rw [if_neg (show ¬ (false = true) by decide)] at H
  obtain rfl := Option.some.inj H
  go_enter Tryd.func12, Tryd.ntmps12
  go_wp2_with (first | ((with_reducible refine gate_dst (N := 3) rfl ?_); refine bx 3 23 #[.int .i64 a1_0, .bool a1_1, .int .i64 a1_2] ?_; intro gb126 hg w12 hbox hb; have BK126 := hbox; have GW126 := gs hg; have GE126 := gs hg; replace HB := bs hb; clear hb hbox hg) | ((with_reducible refine gate_callee (f := 23) rfl ?_); refine gl (some 6) Tryd.func23 #[.int .i64 a0] ?_; (with_reducible refine (impl_isSignalRow.calls a0 false _ A3.out).mono ?_); rintro e w' ⟨rfl, ⟨nd, rfl⟩⟩; refine ⟨_, rfl, ?_⟩))
  go_ret
  exact ⟨rs, bw⟩

/-! ### strconv_Itoa: function 25 -/
def strconv_Itoa.f (a0 : Int) : Option ByteArray := if 0 ≤ a0 ∧ a0 < 100 then some ⟨(Lib.decDigits a0.toNat).toArray⟩ else none
theorem strconv_Itoa.calls (a0 : Int) (r : ByteArray) (w : World) (h : strconv_Itoa.f a0 = some r) :
  Calls Tryd.prog 25 #[.int .i64 a0] w fun e w' => e = .returned (.string r) ∧ Below w.heap.size w w' := by
 unfold strconv_Itoa.f at h
 split at h
 ·next hc =>
  obtain rfl := Option.some.inj h
  obtain ⟨i, rfl⟩ : ∃ i : Nat, a0 = i := ⟨a0.toNat, by omega⟩
  have c : Calls Tryd.prog 25 #[.int .i64 (i : Int)] w _ := Any.strconv_Itoa_small Tryd.lays171 i (by omega) w
  exact c.mono fun e w' ⟨h1, h2⟩ => ⟨by rw [h1, Int.toNat_natCast], h2 ▸ Below.refl _ _⟩
 ·cases h

/-! ### impl_signalText: function 13 -/
def impl_signalText.f (a0_0 : Int) (a0_1 : Bool) (a0_2 : Int) : Option (ByteArray) := if a0_1 = true then ((strconv_Itoa.f a0_0).bind fun t131 => (if t131.size + 1 ≤ 9223372036854775807 then ((strconv_Itoa.f a0_2).bind fun t132 => (if (t131 ++ (⟨#[60]⟩ : ByteArray)).size + t132.size ≤ 9223372036854775807 then (some ((t131 ++ (⟨#[60]⟩ : ByteArray)) ++ t132)) else (none))) else (none))) else ((strconv_Itoa.f a0_0).bind fun t133 => (if t133.size + 1 ≤ 9223372036854775807 then ((strconv_Itoa.f a0_2).bind fun t134 => (if (t133 ++ (⟨#[62]⟩ : ByteArray)).size + t134.size ≤ 9223372036854775807 then (some ((t133 ++ (⟨#[62]⟩ : ByteArray)) ++ t134)) else (none))) else (none)))
def impl_signalText.T4 : Bool × List (List Nat × List Nat) := (true, [([], []), ([0], [0]), ([1], [1]), ([], []), ([2, 3], [2, 3]), ([], []), ([5], [5]), ([6, 2], [6]), ([4, 7], [4, 7]), ([8, 7, 0, 1, 2, 3, 4, 5, 6, 7, 8], [8])])
def impl_signalText.B4 : List Nat := [0, 1, 3, 0, 15, 0, 32, 103, 255, 511]
theorem impl_signalText.tab4 : rtab .any (opsOf Tryd.f13 4) = impl_signalText.T4 := by kernel_rfl
theorem impl_signalText.bits4 : waitsOk impl_signalText.T4.2 impl_signalText.B4 = true := by kernel_rfl
set_option maxHeartbeats 8000000 in
set_option maxRecDepth 100000 in
theorem impl_signalText.calls (a0_0 : Int) (a0_1 : Bool) (a0_2 : Int) (r : ByteArray) (w : World) (h : impl_signalText.f a0_0 a0_1 a0_2 = some r) :
  Calls Tryd.prog 13 #[.agg #[.int .i64 a0_0, .bool a0_1, .int .i64 a0_2]] w fun e w' => e = .returned (.string r) ∧ Below w.heap.size w w' := by
 have hu23 := Tryd.underlying23
 have HB := Aside0.mk (Below.refl w.heap.size w)
 unfold impl_signalText.f at h
 have H := h
 clear h
 by_cases c2 : a0_1 = true
 ·subst c2
  rw [if_pos rfl] at H
  replace H := Option.bind_eq_some_iff.mp H
  obtain ⟨t131, A30, H⟩ := H
  (try dsimp only at H)
  have A3 := Aside0.mk A30
  clear A30
  by_cases c4 : t131.size + 1 ≤ 9223372036854775807
  ·rw [if_pos c4] at H
   have c4b0 := eq_true c4
   have c4b1 : decide (t131.size + 1 ≤ 9223372036854775807) = true := decide_eq_true c4
   try have c4b2 : (9223372036854775807 < t131.size + 1) = False := eq_false (Nat.not_lt.2 c4)
   replace H := Option.bind_eq_some_iff.mp H
   obtain ⟨t132, A50, H⟩ := H
   (try dsimp only at H)
   have A5 := Aside0.mk A50
   clear A50
   by_cases c6 : (t131 ++ (⟨#[60]⟩ : ByteArray)).size + t132.size ≤ 9223372036854775807
   ·rw [if_pos c6] at H
    have c6b0 := eq_true c6
    have c6b1 : decide ((t131 ++ (⟨#[60]⟩ : ByteArray)).size + t132.size ≤ 9223372036854775807) = true := decide_eq_true c6
    try have c6b2 : (9223372036854775807 < (t131 ++ (⟨#[60]⟩ : ByteArray)).size + t132.size) = False := eq_false (Nat.not_lt.2 c6)
    try have c6b3 : (9223372036854775807 < t131.size + 1 + t132.size) = False := eq_false (by have h9_ := c6; clear H; simp only [ByteArray.size_append, ByteArray.size_extract] at h9_; simp only [eq_iff_iff, iff_true, iff_false] at *; have z9_ : (⟨#[60]⟩ : ByteArray).size = 1 := rfl; omega)
    obtain rfl := Option.some.inj H
    go_enter Tryd.func13, Tryd.ntmps13
    try go_wp2_with (first | ((with_reducible refine gate_dst (N := 1) rfl ?_); refine bx 1 23 #[.int .i64 a0_0, .bool true, .int .i64 a0_2] ?_; intro gb130 hg w7 hbox hb; have BK130 := hbox; have GW130 := gs hg; have GE130 := gs hg; replace HB := bs hb; clear hb hbox hg; have hcz8_0 := bc BK130 0 (.int .i64 a0_0); have hcz8_1 := bc BK130 1 (.bool true); have hcz8_2 := bc BK130 2 (.int .i64 a0_2); have hfz8_0 := blk_frozen BK130.out 0; have hfz8_1 := blk_frozen BK130.out 1; have hfz8_2 := blk_frozen BK130.out 2))
    replace BK130 := Aside0.mk (blk_drew BK130.out)
    replace HB := Aside0.mk (below_drew1 HB.out)
    refine start_ (n := 10) (S := fun w' => w'.cell? ⟨gb130, 0, none⟩ = some (.int .i64 a0_0) ∧ w'.cell? ⟨gb130, 1, none⟩ = some (.bool true) ∧ w'.cell? ⟨gb130, 2, none⟩ = some (.int .i64 a0_2)) (ds := []) #[false, false, false, false, false, false, false, false, false, false] (by kernel_rfl) rfl rfl ⟨ec BK130, ec BK130, ec BK130⟩ (fun hHeld => ?_); refine with_tabW impl_signalText.tab4 impl_signalText.bits4 (fun HT_ HW_ => ?_)
    generalize w7.drew = w9 at BK130 HB hHeld ⊢
    refine pu 0 (some 6) #[true, false, false, false, false, false, false, false, false, false] ?_
    refine pu 3 (some 9) #[true, false, false, true, false, false, false, false, false, false] ?_
    refine pu 5 (some 11) #[true, false, false, true, false, true, false, false, false, false] ?_
    refine take_ (i := 1) (N := some 7) (v := ?_) (a' := ?_) #[true, true, false, true, false, true, false, false, false, false] rfl rfl (take_ofW HT_.out HW_.out (by kernel_rfl)) (fun _ _ _ h => h) (Or.inl ⟨by rfl, ?_⟩) hHeld ?_ ?_
    rotate_left
    ·rintro w' ⟨s0, s1, s2⟩
     go_simp
     with_reducible rfl
    rotate_left
    ·simp only [Act.put, List.setIfInBounds_toArray, List.set_cons_zero, List.set_cons_succ, i64_w, i32_w]
     rfl
    refine take_ (i := 6) (N := some 12) (v := ?_) (a' := ?_) #[true, true, false, true, false, true, true, false, false, false] rfl rfl (take_ofW HT_.out HW_.out (by kernel_rfl)) (fun _ _ _ h => h) (Or.inl ⟨by rfl, ?_⟩) hHeld ?_ ?_
    rotate_left
    ·rintro w' ⟨s0, s1, s2⟩
     go_simp
     with_reducible rfl
    rotate_left
    ·simp only [Act.put, List.setIfInBounds_toArray, List.set_cons_zero, List.set_cons_succ, i64_w, i32_w]
     rfl
    refine one_ (i := 2) (N := some 8) #[true, true, true, true, false, true, true, false, false, false] rfl rfl (one_of HT_.out (by kernel_rfl)) (by decide) (fun K hK => ?_)
    refine goes_ Tryd.func25 (by kernel_rfl) rfl #[.int .i64 a0_0] (by rfl) rfl rfl (by (try simp only [List.map_toArray, List.map_cons, List.map_nil]); first | done | rfl | (simp only [List.length_drop, List.length_take]; rfl)) ?_
    with_reducible refine (strconv_Itoa.calls a0_0 t131 _ A3.out).mono ?_
    rintro e w10 ⟨rfl, hb⟩
    refine ⟨_, rfl, ?_⟩
    replace BK130 := nk BK130 hb
    replace HB := bs hb
    (try clear hb)
    refine hK.out _ _ ⟨ec BK130, ec BK130, ec BK130⟩ (fun hHeld => ?_)
    clear hK K
    refine nm (some 8) ?_
    refine pu 4 (some 10) #[true, true, true, true, true, true, true, false, false, false] ?_
    refine one_ (i := 7) (N := some 13) #[true, true, true, true, true, true, true, true, false, false] rfl rfl (one_of HT_.out (by kernel_rfl)) (by decide) (fun K hK => ?_)
    refine goes_ Tryd.func25 (by kernel_rfl) rfl #[.int .i64 a0_2] (by rfl) rfl rfl (by (try simp only [List.map_toArray, List.map_cons, List.map_nil]); first | done | rfl | (simp only [List.length_drop, List.length_take]; rfl)) ?_
    with_reducible refine (strconv_Itoa.calls a0_2 t132 _ A5.out).mono ?_
    rintro e w11 ⟨rfl, hb⟩
    refine ⟨_, rfl, ?_⟩
    replace BK130 := nk BK130 hb
    replace HB := bs hb
    (try clear hb)
    refine hK.out _ _ ⟨ec BK130, ec BK130, ec BK130⟩ (fun hHeld => ?_)
    clear hK K
    refine nm (some 13) ?_
    refine pu 8 (some 14) #[true, true, true, true, true, true, true, true, true, false] ?_
    refine pu 9 (some 2) #[true, true, true, true, true, true, true, true, true, true] ?_
    refine done_ (done_of HT_.out (by kernel_rfl)) ?_
    try go_wp2
    go_ret
    exact ⟨rs, bw⟩
   ·rw [if_neg c6] at H
    exact absurd H (by simp)
  ·rw [if_neg c4] at H
   exact absurd H (by simp)
 ·replace c2 := Bool.eq_false_iff.mpr c2
  subst c2
  rw [if_neg (show ¬ (false = true) by decide)] at H
  replace H := Option.bind_eq_some_iff.mp H
  obtain ⟨t133, A120, H⟩ := H
  (try dsimp only at H)
  have A12 := Aside0.mk A120
  clear A120
  by_cases c13 : t133.size + 1 ≤ 9223372036854775807
  ·rw [if_pos c13] at H
   have c13b0 := eq_true c13
   have c13b1 : decide (t133.size + 1 ≤ 9223372036854775807) = true := decide_eq_true c13
   try have c13b2 : (9223372036854775807 < t133.size + 1) = False := eq_false (Nat.not_lt.2 c13)
   replace H := Option.bind_eq_some_iff.mp H
   obtain ⟨t134, A140, H⟩ := H
   (try dsimp only at H)
   have A14 := Aside0.mk A140
   clear A140
   by_cases c15 : (t133 ++ (⟨#[62]⟩ : ByteArray)).size + t134.size ≤ 9223372036854775807
   ·rw [if_pos c15] at H
    have c15b0 := eq_true c15
    have c15b1 : decide ((t133 ++ (⟨#[62]⟩ : ByteArray)).size + t134.size ≤ 9223372036854775807) = true := decide_eq_true c15
    try have c15b2 : (9223372036854775807 < (t133 ++ (⟨#[62]⟩ : ByteArray)).size + t134.size) = False := eq_false (Nat.not_lt.2 c15)
    try have c15b3 : (9223372036854775807 < t133.size + 1 + t134.size) = False := eq_false (by have h9_ := c15; clear H; simp only [ByteArray.size_append, ByteArray.size_extract] at h9_; simp only [eq_iff_iff, iff_true, iff_false] at *; have z9_ : (⟨#[62]⟩ : ByteArray).size = 1 := rfl; omega)
    obtain rfl := Option.some.inj H
    go_enter Tryd.func13, Tryd.ntmps13
    try go_wp2_with (first | ((with_reducible refine gate_dst (N := 1) rfl ?_); refine bx 1 23 #[.int .i64 a0_0, .bool false, .int .i64 a0_2] ?_; intro gb130 hg w16 hbox hb; have BK130 := hbox; have GW130 := gs hg; have GE130 := gs hg; replace HB := bs hb; clear hb hbox hg; have hcz17_0 := bc BK130 0 (.int .i64 a0_0); have hcz17_1 := bc BK130 1 (.bool false); have hcz17_2 := bc BK130 2 (.int .i64 a0_2); have hfz17_0 := blk_frozen BK130.out 0; have hfz17_1 := blk_frozen BK130.out 1; have hfz17_2 := blk_frozen BK130.out 2))
    replace BK130 := Aside0.mk (blk_drew BK130.out)
    replace HB := Aside0.mk (below_drew1 HB.out)
    refine start_ (n := 10) (S := fun w' => w'.cell? ⟨gb130, 0, none⟩ = some (.int .i64 a0_0) ∧ w'.cell? ⟨gb130, 1, none⟩ = some (.bool false) ∧ w'.cell? ⟨gb130, 2, none⟩ = some (.int .i64 a0_2)) (ds := []) #[false, false, false, false, false, false, false, false, false, false] (by kernel_rfl) rfl rfl ⟨ec BK130, ec BK130, ec BK130⟩ (fun hHeld => ?_); refine with_tabW impl_signalText.tab4 impl_signalText.bits4 (fun HT_ HW_ => ?_)
    generalize w16.drew = w18 at BK130 HB hHeld ⊢
    refine pu 0 (some 6) #[true, false, false, false, false, false, false, false, false, false] ?_
    refine pu 3 (some 9) #[true, false, false, true, false, false, false, false, false, false] ?_
    refine pu 5 (some 11) #[true, false, false, true, false, true, false, false, false, false] ?_
    refine take_ (i := 1) (N := some 7) (v := ?_) (a' := ?_) #[true, true, false, true, false, true, false, false, false, false] rfl rfl (take_ofW HT_.out HW_.out (by kernel_rfl)) (fun _ _ _ h => h) (Or.inl ⟨by rfl, ?_⟩) hHeld ?_ ?_
    rotate_left
    ·rintro w' ⟨s0, s1, s2⟩
     go_simp
     with_reducible rfl
    rotate_left
    ·simp only [Act.put, List.setIfInBounds_toArray, List.set_cons_zero, List.set_cons_succ, i64_w, i32_w]
     rfl
    refine take_ (i := 6) (N := some 12) (v := ?_) (a' := ?_) #[true, true, false, true, false, true, true, false, false, false] rfl rfl (take_ofW HT_.out HW_.out (by kernel_rfl)) (fun _ _ _ h => h) (Or.inl ⟨by rfl, ?_⟩) hHeld ?_ ?_
    rotate_left
    ·rintro w' ⟨s0, s1, s2⟩
     go_simp
     with_reducible rfl
    rotate_left
    ·simp only [Act.put, List.setIfInBounds_toArray, List.set_cons_zero, List.set_cons_succ, i64_w, i32_w]
     rfl
    refine one_ (i := 2) (N := some 8) #[true, true, true, true, false, true, true, false, false, false] rfl rfl (one_of HT_.out (by kernel_rfl)) (by decide) (fun K hK => ?_)
    refine goes_ Tryd.func25 (by kernel_rfl) rfl #[.int .i64 a0_0] (by rfl) rfl rfl (by (try simp only [List.map_toArray, List.map_cons, List.map_nil]); first | done | rfl | (simp only [List.length_drop, List.length_take]; rfl)) ?_
    with_reducible refine (strconv_Itoa.calls a0_0 t133 _ A12.out).mono ?_
    rintro e w19 ⟨rfl, hb⟩
    refine ⟨_, rfl, ?_⟩
    replace BK130 := nk BK130 hb
    replace HB := bs hb
    (try clear hb)
    refine hK.out _ _ ⟨ec BK130, ec BK130, ec BK130⟩ (fun hHeld => ?_)
    clear hK K
    refine nm (some 8) ?_
    refine pu 4 (some 10) #[true, true, true, true, true, true, true, false, false, false] ?_
    refine one_ (i := 7) (N := some 13) #[true, true, true, true, true, true, true, true, false, false] rfl rfl (one_of HT_.out (by kernel_rfl)) (by decide) (fun K hK => ?_)
    refine goes_ Tryd.func25 (by kernel_rfl) rfl #[.int .i64 a0_2] (by rfl) rfl rfl (by (try simp only [List.map_toArray, List.map_cons, List.map_nil]); first | done | rfl | (simp only [List.length_drop, List.length_take]; rfl)) ?_
    with_reducible refine (strconv_Itoa.calls a0_2 t134 _ A14.out).mono ?_
    rintro e w20 ⟨rfl, hb⟩
    refine ⟨_, rfl, ?_⟩
    replace BK130 := nk BK130 hb
    replace HB := bs hb
    (try clear hb)
    refine hK.out _ _ ⟨ec BK130, ec BK130, ec BK130⟩ (fun hHeld => ?_)
    clear hK K
    refine nm (some 13) ?_
    refine pu 8 (some 14) #[true, true, true, true, true, true, true, true, true, false] ?_
    refine pu 9 (some 2) #[true, true, true, true, true, true, true, true, true, true] ?_
    refine done_ (done_of HT_.out (by kernel_rfl)) ?_
    try go_wp2
    go_ret
    exact ⟨rs, bw⟩
   ·rw [if_neg c15] at H
    exact absurd H (by simp)
  ·rw [if_neg c13] at H
   exact absurd H (by simp)

/-! ### impl_ParseSignal: function 5 -/
def impl_ParseSignal.f (a0 : ByteArray) : Option (Int × Bool × Int × Bool) := (strings_IndexAny.f a0 (⟨#[60, 62]⟩ : ByteArray)).bind fun t136 => (if t136 < 0 then (some (0, false, 0, false)) else (if 0 ≤ t136 then (if t136 ≤ (a0.size : Int) then ((strconv_Atoi.f (a0.extract 0 (t136 : Int).toNat)).bind fun bt137 => (if 0 ≤ (wrap64 (t136 + 1)) then (if (wrap64 (t136 + 1)) ≤ (a0.size : Int) then ((strconv_Atoi.f (a0.extract ((wrap64 (t136 + 1)) : Int).toNat a0.size)).bind fun bt139 => (if t136 < (a0.size : Int) then (if bt137.2.isNone = true then (if bt139.2.isNone = true then ((impl_isSignal.f 100 bt137.1 ((bt a0 t136) == 60) bt139.1).bind fun t144 => (if t144 = true then ((impl_signalText.f bt137.1 ((bt a0 t136) == 60) bt139.1).bind fun t145 => (if t145.toList = a0.toList then (some (bt137.1, ((bt a0 t136) == 60), bt139.1, true)) else (some (0, false, 0, false)))) else (some (0, false, 0, false)))) else (some (0, false, 0, false))) else (some (0, false, 0, false))) else (none))) else (none)) else (none))) else (none)) else (none)))
set_option maxHeartbeats 8000000 in
set_option maxRecDepth 100000 in
theorem impl_ParseSignal.calls (a0 : ByteArray) (r1 : Int) (r2 : Bool) (r3 : Int) (r4 : Bool) (w : World) (hm : Dr.Tab w) (h : impl_ParseSignal.f a0 = some (r1, r2, r3, r4)) :
  Calls Tryd.prog 5 #[.string a0] w fun e w' => e = .returned (.tuple #[.agg #[.int .i64 r1, .bool r2, .int .i64 r3], .bool r4]) ∧ Below w.heap.size w w' := by
 have hu23 := Tryd.underlying23
 have hu33 := Tryd.underlying33
 have HB := Aside0.mk (Below.refl w.heap.size w)
 have HMM := Aside0.mk hm
 clear hm
 unfold impl_ParseSignal.f at h
 have H := h
 clear h
 replace H := Option.bind_eq_some_iff.mp H
 obtain ⟨t136, A20, H⟩ := H
 (try dsimp only at H)
 have A2 := Aside0.mk A20
 clear A20
 by_cases c3 : t136 < 0
 ·rw [if_pos c3] at H
  have c3b0 : decide (t136 < 0) = true := decide_eq_true c3
  clear c3
  simp only [Option.some.injEq, Prod.mk.injEq] at H
  obtain ⟨rfl, rfl, rfl, rfl⟩ := H
  go_enter Tryd.func5, Tryd.ntmps5
  go_wp2_with (first | ((with_reducible refine gate_dst (N := 2) rfl ?_); refine bx 2 23 #[.int .i64 0, .bool false, .int .i64 0] ?_; intro gb135 hg w4 hbox hb; have BK135 := hbox; have GW135 := gs hg; have GE135 := gs hg; replace HB := bs hb; clear hb hbox hg) | ((with_reducible refine gate_callee (f := 10) rfl ?_); refine gl (some 11) Tryd.func10 #[.string a0, .string (⟨#[60, 62]⟩ : ByteArray)] ?_; (with_reducible refine (strings_IndexAny.calls a0 (⟨#[60, 62]⟩ : ByteArray) t136 _ A2.out).mono ?_); rintro e w5 ⟨rfl, hb⟩; refine ⟨_, rfl, ?_⟩; replace BK135 := nk BK135 hb; replace HB := bs hb; (try clear hb); have hcz6_0 := bc BK135 0 (.int .i64 0); have hcz6_1 := bc BK135 1 (.bool false); have hcz6_2 := bc BK135 2 (.int .i64 0); have hfz6_0 := blk_frozen BK135.out 0; have hfz6_1 := blk_frozen BK135.out 1; have hfz6_2 := blk_frozen BK135.out 2))
  refine bodyPost_ret (results_ct rfl _ _ gb135 23 #[.int .i64 0, .bool false, .int .i64 0] (0, 0) _ rfl (by (with_reducible repeat (first | refine blk_drewN ?_ _ | refine blk_drew ?_ | refine blk_alloc ?_ _)); refine blk_put (cs := #[.int .i64 0, .bool false, .int .i64 0]) ?_ 2 _ rfl; (with_reducible repeat (first | refine blk_drewN ?_ _ | refine blk_drew ?_ | refine blk_alloc ?_ _)); refine blk_put (cs := #[.int .i64 0, .bool false, .int .i64 0]) ?_ 1 _ rfl; (with_reducible repeat (first | refine blk_drewN ?_ _ | refine blk_drew ?_ | refine blk_alloc ?_ _)); refine blk_put (cs := #[.int .i64 0, .bool false, .int .i64 0]) ?_ 0 _ rfl; (with_reducible repeat (first | refine blk_drewN ?_ _ | refine blk_drew ?_ | refine blk_alloc ?_ _)); exact BK135.out) Tryd.underlying23 rfl (by kernel_rfl)) rfl ?_
  exact ⟨rs, bw⟩
 ·rw [if_neg c3] at H
  have c3b0 : decide (t136 < 0) = false := decide_eq_false c3
  clear c3
  by_cases c7 : 0 ≤ t136
  ·rw [if_pos c7] at H
   have c7b0 := eq_true c7
   have c7b1 : decide (0 ≤ t136) = true := decide_eq_true c7
   clear c7
   by_cases c8 : t136 ≤ (a0.size : Int)
   ·rw [if_pos c8] at H
    have c8b0 := eq_true c8
    have c8b1 : decide (t136 ≤ (a0.size : Int)) = true := decide_eq_true c8
    clear c8
    replace H := Option.bind_eq_some_iff.mp H
    obtain ⟨⟨t137, t138⟩, A90, H⟩ := H
    (try dsimp only at H)
    have A9 := Aside0.mk A90
    clear A90
    obtain ⟨ji10, hji10⟩ : ∃ j_ : Int, (wrap64 (t136 + 1)) = j_ := ⟨_, rfl⟩
    replace H : (if 0 ≤ (ji10) then (if (ji10) ≤ (a0.size : Int) then ((strconv_Atoi.f (a0.extract ((ji10) : Int).toNat a0.size)).bind fun bt139 => (if t136 < (a0.size : Int) then (if t138.isNone = true then (if bt139.2.isNone = true then ((impl_isSignal.f 100 t137 ((bt a0 t136) == 60) bt139.1).bind fun t144 => (if t144 = true then ((impl_signalText.f t137 ((bt a0 t136) == 60) bt139.1).bind fun t145 => (if t145.toList = a0.toList then (some (t137, ((bt a0 t136) == 60), bt139.1, true)) else (some (0, false, 0, false)))) else (some (0, false, 0, false)))) else (some (0, false, 0, false))) else (some (0, false, 0, false))) else (none))) else (none)) else (none)) = some (r1, r2, r3, r4) := by first | (rw [hji10] at H; exact H) | (simp only [hji10] at H ⊢; exact H)
    (try rw [hji10] at A2)
    (try rw [hji10] at A9)
    have hji10w : (IntKind.i64.wrap (t136 + 1)) = ji10 := (i64_w _).trans hji10
    by_cases c11 : 0 ≤ (ji10)
    ·rw [if_pos c11] at H
     have c11b0 := eq_true c11
     have c11b1 : decide (0 ≤ (ji10)) = true := decide_eq_true c11
     clear c11
     by_cases c12 : (ji10) ≤ (a0.size : Int)
     ·rw [if_pos c12] at H
      have c12b0 := eq_true c12
      have c12b1 : decide ((ji10) ≤ (a0.size : Int)) = true := decide_eq_true c12
      clear c12
      replace H := Option.bind_eq_some_iff.mp H
      obtain ⟨⟨t139, t140⟩, A130, H⟩ := H
      (try dsimp only at H)
      have A13 := Aside0.mk A130
      clear A130
      by_cases c14 : t136 < (a0.size : Int)
      ·rw [if_pos c14] at H
       have c14b0 : decide (t136 < (a0.size : Int)) = true := decide_eq_true c14
       clear c14
       rcases t138 with _ | q142
       ·rw [if_pos (show (none : Option Int).isNone = true by rfl)] at H
        try simp only [errW_none, errW_some]
        rcases t140 with _ | q143
        ·rw [if_pos (show (none : Option Int).isNone = true by rfl)] at H
         try simp only [errW_none, errW_some]
         replace H := Option.bind_eq_some_iff.mp H
         obtain ⟨t144, A160, H⟩ := H
         (try dsimp only at H)
         have A16 := Aside0.mk A160
         clear A160
         by_cases c17 : t144 = true
         ·subst c17
          rw [if_pos rfl] at H
          replace H := Option.bind_eq_some_iff.mp H
          obtain ⟨t145, A180, H⟩ := H
          (try dsimp only at H)
          have A18 := Aside0.mk A180
          clear A180
          by_cases c19 : t145.toList = a0.toList
          ·rw [if_pos c19] at H
           have c19b0 : (t145.toList == a0.toList) = true := beq_iff_eq.mpr c19
           have c19b1 : (t145.toList != a0.toList) = false := bne_eq_false_iff_eq.mpr c19
           clear c19
           simp only [Option.some.injEq, Prod.mk.injEq] at H
           obtain ⟨rfl, rfl, rfl, rfl⟩ := H
           go_enter Tryd.func5, Tryd.ntmps5
           go_wp2_with (first | ((with_reducible refine gate_dst (N := 2) rfl ?_); refine bx 2 23 #[.int .i64 0, .bool false, .int .i64 0] ?_; intro gb135 hg w20 hbox hb; have BK135 := hbox; have GW135 := gs hg; have GE135 := gs hg; replace HB := bs hb; clear hb hbox hg) | ((with_reducible refine gate_callee (f := 10) rfl ?_); refine gl (some 11) Tryd.func10 #[.string a0, .string (⟨#[60, 62]⟩ : ByteArray)] ?_; (with_reducible refine (strings_IndexAny.calls a0 (⟨#[60, 62]⟩ : ByteArray) t136 _ A2.out).mono ?_); rintro e w21 ⟨rfl, hb⟩; refine ⟨_, rfl, ?_⟩; replace BK135 := nk BK135 hb; replace HB := bs hb; (try clear hb)) | ((with_reducible refine gate_callee (f := 11) rfl ?_); refine gl (some 19) Tryd.func11 #[.string (a0.extract 0 (t136 : Int).toNat)] ?_; (with_reducible refine (strconv_Atoi.calls (a0.extract 0 (t136 : Int).toNat) t137 none _ ?side1 A9.out).mono ?_); (case side1 => first | exact HMM.out | exact Dr.Tab.below HMM.out bw | (repeat (first | exact HMM.out | apply Dr.Tab.drewN | apply Dr.Tab.drew | apply Dr.Tab.alloc))); rintro e w22 ⟨q_, rfl, hb⟩; refine ⟨_, rfl, ?_⟩; replace BK135 := nk BK135 hb; replace HB := bs hb; (try clear hb); (try simp only [Option.map_none, Option.map_some, errW_none, errW_some])) | ((with_reducible refine gate_callee (f := 11) rfl ?_); refine goesL_ (some 27) rfl rfl Tryd.func11 (by kernel_rfl) rfl #[.string (a0.extract ((ji10) : Int).toNat a0.size)] rfl (by (try simp only [List.map_toArray, List.map_cons, List.map_nil]); first | done | (simp only [hji10]; rfl) | rfl | (simp only [List.length_drop, List.length_take]; rfl)) ?_; (with_reducible refine (strconv_Atoi.calls (a0.extract ((ji10) : Int).toNat a0.size) t139 none _ ?side1 A13.out).mono ?_); (case side1 => first | exact HMM.out | exact Dr.Tab.below HMM.out bw | (repeat (first | exact HMM.out | apply Dr.Tab.drewN | apply Dr.Tab.drew | apply Dr.Tab.alloc))); rintro e w23 ⟨q_, rfl, hb⟩; refine ⟨_, rfl, ?_⟩; replace BK135 := nk BK135 hb; replace HB := bs hb; (try clear hb); (try simp only [Option.map_none, Option.map_some, errW_none, errW_some]); have p15 : 0 ≤ (t136 : Int) := of_decide_eq_true (by first | (with_reducible assumption) | assumption); have q15 : t136 < (a0.size : Int) := of_decide_eq_true (by first | (with_reducible assumption) | assumption); have hx15 := bt_at a0 t136; replace p15 := eq_true p15; replace q15 := eq_true q15) | ((with_reducible refine gate_dst (N := 9) rfl ?_); refine bx 9 23 #[.int .i64 0, .bool false, .int .i64 0] ?_; intro gb141 hg w24 hbox hb; have BK141 := hbox; have GW141 := gs hg; have GE141 := gs hg; replace HB := bs hb; have NB135_141 := nl BK135 hg; have NB141_135 := ng BK135 hg; replace BK135 := nk BK135 hb; clear hb hbox hg; have hnb25 := NB141_135.out; have hnc25 := NB135_141.out; have hcz26_0 := bc BK141 0 (.int .i64 0); have hcz26_1 := bc BK141 1 (.bool false); have hcz26_2 := bc BK141 2 (.int .i64 0); have hfz26_0 := blk_frozen BK141.out 0; have hfz26_1 := blk_frozen BK141.out 1; have hfz26_2 := blk_frozen BK141.out 2) | (go_at_call 12; (with_reducible refine (impl_isSignal.calls 100 t137 ((bt a0 t136) == 60) t139 true _ A16.out).mono ?_); rintro e w27 ⟨rfl, hb⟩; replace BK135 := Aside0.mk (blk_below (g := gb135) (o := .cells #[.int .i64 0, .bool false, .int .i64 0] 23 (0, 0)) (by (with_reducible repeat (first | refine blk_drewN ?_ _ | refine blk_drew ?_ | refine blk_alloc ?_ _)); refine blk_far ?_ NB135_141.out _; (with_reducible repeat (first | refine blk_drewN ?_ _ | refine blk_drew ?_ | refine blk_alloc ?_ _)); refine blk_far ?_ NB135_141.out _; (with_reducible repeat (first | refine blk_drewN ?_ _ | refine blk_drew ?_ | refine blk_alloc ?_ _)); refine blk_far ?_ NB135_141.out _; (with_reducible repeat (first | refine blk_drewN ?_ _ | refine blk_drew ?_ | refine blk_alloc ?_ _)); exact BK135.out) hb); replace BK141 := Aside0.mk (blk_below (g := gb141) (o := .cells #[.int .i64 t137, .bool ((bt a0 t136) == 60), .int .i64 t139] 23 (0, 0)) (by (with_reducible repeat (first | refine blk_drewN ?_ _ | refine blk_drew ?_ | refine blk_alloc ?_ _)); refine blk_put (cs := #[.int .i64 t137, .bool ((bt a0 t136) == 60), .int .i64 0]) ?_ 2 _ rfl; (with_reducible repeat (first | refine blk_drewN ?_ _ | refine blk_drew ?_ | refine blk_alloc ?_ _)); refine blk_put (cs := #[.int .i64 t137, .bool false, .int .i64 0]) ?_ 1 _ rfl; (with_reducible repeat (first | refine blk_drewN ?_ _ | refine blk_drew ?_ | refine blk_alloc ?_ _)); refine blk_put (cs := #[.int .i64 0, .bool false, .int .i64 0]) ?_ 0 _ rfl; (with_reducible repeat (first | refine blk_drewN ?_ _ | refine blk_drew ?_ | refine blk_alloc ?_ _)); exact BK141.out) hb); replace HB := bs hb; (try clear hb); have hcz28_0 := bc BK141 0 (.int .i64 t137); have hcz28_1 := bc BK141 1 (.bool ((bt a0 t136) == 60)); have hcz28_2 := bc BK141 2 (.int .i64 t139); have hfz28_0 := blk_frozen BK141.out 0; have hfz28_1 := blk_frozen BK141.out 1; have hfz28_2 := blk_frozen BK141.out 2) | (go_at_call 13; (with_reducible refine (impl_signalText.calls t137 ((bt a0 t136) == 60) t139 t145 _ A18.out).mono ?_); rintro e w29 ⟨rfl, hb⟩; replace BK135 := nk BK135 hb; replace BK141 := nk BK141 hb; replace HB := bs hb; (try clear hb); have hcz30_0 := bc BK141 0 (.int .i64 t137); have hcz30_1 := bc BK141 1 (.bool ((bt a0 t136) == 60)); have hcz30_2 := bc BK141 2 (.int .i64 t139); have hfz30_0 := blk_frozen BK141.out 0; have hfz30_1 := blk_frozen BK141.out 1; have hfz30_2 := blk_frozen BK141.out 2; have hcz31_0 := bc BK135 0 (.int .i64 0); have hcz31_1 := bc BK135 1 (.bool false); have hcz31_2 := bc BK135 2 (.int .i64 0); have hfz31_0 := blk_frozen BK135.out 0; have hfz31_1 := blk_frozen BK135.out 1; have hfz31_2 := blk_frozen BK135.out 2))
           refine bodyPost_ret (results_ct rfl _ _ gb135 23 #[.int .i64 t137, .bool ((bt a0 t136) == 60), .int .i64 t139] (0, 0) _ rfl (by (with_reducible repeat (first | refine blk_drewN ?_ _ | refine blk_drew ?_ | refine blk_alloc ?_ _)); refine blk_put (cs := #[.int .i64 t137, .bool ((bt a0 t136) == 60), .int .i64 0]) ?_ 2 _ rfl; (with_reducible repeat (first | refine blk_drewN ?_ _ | refine blk_drew ?_ | refine blk_alloc ?_ _)); refine blk_put (cs := #[.int .i64 t137, .bool false, .int .i64 0]) ?_ 1 _ rfl; (with_reducible repeat (first | refine blk_drewN ?_ _ | refine blk_drew ?_ | refine blk_alloc ?_ _)); refine blk_put (cs := #[.int .i64 0, .bool false, .int .i64 0]) ?_ 0 _ rfl; (with_reducible repeat (first | refine blk_drewN ?_ _ | refine blk_drew ?_ | refine blk_alloc ?_ _)); exact BK135.out) Tryd.underlying23 rfl (by kernel_rfl)) rfl ?_
           exact ⟨by first | rfl | (simp [errW_none, errW_some] <;> rfl) | (simp only [← hji10]; first | rfl | (simp [errW_none, errW_some] <;> rfl)) | (simp [*, errW_none, errW_some] <;> rfl), bw⟩
          ·rw [if_neg c19] at H
           have c19b0 : (t145.toList == a0.toList) = false := beq_eq_false_iff_ne.mpr c19
           have c19b1 : (t145.toList != a0.toList) = true := bne_iff_ne.mpr c19
           simp only [Option.some.injEq, Prod.mk.injEq] at H
           obtain ⟨rfl, rfl, rfl, rfl⟩ := H
           go_enter Tryd.func5, Tryd.ntmps5
           go_wp2_with (first | ((with_reducible refine gate_dst (N := 2) rfl ?_); refine bx 2 23 #[.int .i64 0, .bool false, .int .i64 0] ?_; intro gb135 hg w32 hbox hb; have BK135 := hbox; have GW135 := gs hg; have GE135 := gs hg; replace HB := bs hb; clear hb hbox hg) | ((with_reducible refine gate_callee (f := 10) rfl ?_); refine gl (some 11) Tryd.func10 #[.string a0, .string (⟨#[60, 62]⟩ : ByteArray)] ?_; (with_reducible refine (strings_IndexAny.calls a0 (⟨#[60, 62]⟩ : ByteArray) t136 _ A2.out).mono ?_); rintro e w33 ⟨rfl, hb⟩; refine ⟨_, rfl, ?_⟩; replace BK135 := nk BK135 hb; replace HB := bs hb; (try clear hb)) | ((with_reducible refine gate_callee (f := 11) rfl ?_); refine gl (some 19) Tryd.func11 #[.string (a0.extract 0 (t136 : Int).toNat)] ?_; (with_reducible refine (strconv_Atoi.calls (a0.extract 0 (t136 : Int).toNat) t137 none _ ?side1 A9.out).mono ?_); (case side1 => first | exact HMM.out | exact Dr.Tab.below HMM.out bw | (repeat (first | exact HMM.out | apply Dr.Tab.drewN | apply Dr.Tab.drew | apply Dr.Tab.alloc))); rintro e w34 ⟨q_, rfl, hb⟩; refine ⟨_, rfl, ?_⟩; replace BK135 := nk BK135 hb; replace HB := bs hb; (try clear hb); (try simp only [Option.map_none, Option.map_some, errW_none, errW_some])) | ((with_reducible refine gate_callee (f := 11) rfl ?_); refine goesL_ (some 27) rfl rfl Tryd.func11 (by kernel_rfl) rfl #[.string (a0.extract ((ji10) : Int).toNat a0.size)] rfl (by (try simp only [List.map_toArray, List.map_cons, List.map_nil]); first | done | (simp only [hji10]; rfl) | rfl | (simp only [List.length_drop, List.length_take]; rfl)) ?_; (with_reducible refine (strconv_Atoi.calls (a0.extract ((ji10) : Int).toNat a0.size) t139 none _ ?side1 A13.out).mono ?_); (case side1 => first | exact HMM.out | exact Dr.Tab.below HMM.out bw | (repeat (first | exact HMM.out | apply Dr.Tab.drewN | apply Dr.Tab.drew | apply Dr.Tab.alloc))); rintro e w35 ⟨q_, rfl, hb⟩; refine ⟨_, rfl, ?_⟩; replace BK135 := nk BK135 hb; replace HB := bs hb; (try clear hb); (try simp only [Option.map_none, Option.map_some, errW_none, errW_some]); have p15 : 0 ≤ (t136 : Int) := of_decide_eq_true (by first | (with_reducible assumption) | assumption); have q15 : t136 < (a0.size : Int) := of_decide_eq_true (by first | (with_reducible assumption) | assumption); have hx15 := bt_at a0 t136; replace p15 := eq_true p15; replace q15 := eq_true q15) | ((with_reducible refine gate_dst (N := 9) rfl ?_); refine bx 9 23 #[.int .i64 0, .bool false, .int .i64 0] ?_; intro gb141 hg w36 hbox hb; have BK141 := hbox; have GW141 := gs hg; have GE141 := gs hg; replace HB := bs hb; have NB135_141 := nl BK135 hg; have NB141_135 := ng BK135 hg; replace BK135 := nk BK135 hb; clear hb hbox hg; have hnb37 := NB141_135.out; have hnc37 := NB135_141.out; have hcz38_0 := bc BK141 0 (.int .i64 0); have hcz38_1 := bc BK141 1 (.bool false); have hcz38_2 := bc BK141 2 (.int .i64 0); have hfz38_0 := blk_frozen BK141.out 0; have hfz38_1 := blk_frozen BK141.out 1; have hfz38_2 := blk_frozen BK141.out 2) | (go_at_call 12; (with_reducible refine (impl_isSignal.calls 100 t137 ((bt a0 t136) == 60) t139 true _ A16.out).mono ?_); rintro e w39 ⟨rfl, hb⟩; replace BK135 := Aside0.mk (blk_below (g := gb135) (o := .cells #[.int .i64 0, .bool false, .int .i64 0] 23 (0, 0)) (by (with_reducible repeat (first | refine blk_drewN ?_ _ | refine blk_drew ?_ | refine blk_alloc ?_ _)); refine blk_far ?_ NB135_141.out _; (with_reducible repeat (first | refine blk_drewN ?_ _ | refine blk_drew ?_ | refine blk_alloc ?_ _)); refine blk_far ?_ NB135_141.out _; (with_reducible repeat (first | refine blk_drewN ?_ _ | refine blk_drew ?_ | refine blk_alloc ?_ _)); refine blk_far ?_ NB135_141.out _; (with_reducible repeat (first | refine blk_drewN ?_ _ | refine blk_drew ?_ | refine blk_alloc ?_ _)); exact BK135.out) hb); replace BK141 := Aside0.mk (blk_below (g := gb141) (o := .cells #[.int .i64 t137, .bool ((bt a0 t136) == 60), .int .i64 t139] 23 (0, 0)) (by (with_reducible repeat (first | refine blk_drewN ?_ _ | refine blk_drew ?_ | refine blk_alloc ?_ _)); refine blk_put (cs := #[.int .i64 t137, .bool ((bt a0 t136) == 60), .int .i64 0]) ?_ 2 _ rfl; (with_reducible repeat (first | refine blk_drewN ?_ _ | refine blk_drew ?_ | refine blk_alloc ?_ _)); refine blk_put (cs := #[.int .i64 t137, .bool false, .int .i64 0]) ?_ 1 _ rfl; (with_reducible repeat (first | refine blk_drewN ?_ _ | refine blk_drew ?_ | refine blk_alloc ?_ _)); refine blk_put (cs := #[.int .i64 0, .bool false, .int .i64 0]) ?_ 0 _ rfl; (with_reducible repeat (first | refine blk_drewN ?_ _ | refine blk_drew ?_ | refine blk_alloc ?_ _)); exact BK141.out) hb); replace HB := bs hb; (try clear hb); have hcz40_0 := bc BK141 0 (.int .i64 t137); have hcz40_1 := bc BK141 1 (.bool ((bt a0 t136) == 60)); have hcz40_2 := bc BK141 2 (.int .i64 t139); have hfz40_0 := blk_frozen BK141.out 0; have hfz40_1 := blk_frozen BK141.out 1; have hfz40_2 := blk_frozen BK141.out 2) | (go_at_call 13; (with_reducible refine (impl_signalText.calls t137 ((bt a0 t136) == 60) t139 t145 _ A18.out).mono ?_); rintro e w41 ⟨rfl, hb⟩; replace BK135 := nk BK135 hb; replace BK141 := nk BK141 hb; replace HB := bs hb; (try clear hb); have hcz42_0 := bc BK135 0 (.int .i64 0); have hcz42_1 := bc BK135 1 (.bool false); have hcz42_2 := bc BK135 2 (.int .i64 0); have hfz42_0 := blk_frozen BK135.out 0; have hfz42_1 := blk_frozen BK135.out 1; have hfz42_2 := blk_frozen BK135.out 2))
           refine bodyPost_ret (results_ct rfl _ _ gb135 23 #[.int .i64 0, .bool false, .int .i64 0] (0, 0) _ rfl (by (with_reducible repeat (first | refine blk_drewN ?_ _ | refine blk_drew ?_ | refine blk_alloc ?_ _)); refine blk_put (cs := #[.int .i64 0, .bool false, .int .i64 0]) ?_ 2 _ rfl; (with_reducible repeat (first | refine blk_drewN ?_ _ | refine blk_drew ?_ | refine blk_alloc ?_ _)); refine blk_put (cs := #[.int .i64 0, .bool false, .int .i64 0]) ?_ 1 _ rfl; (with_reducible repeat (first | refine blk_drewN ?_ _ | refine blk_drew ?_ | refine blk_alloc ?_ _)); refine blk_put (cs := #[.int .i64 0, .bool false, .int .i64 0]) ?_ 0 _ rfl; (with_reducible repeat (first | refine blk_drewN ?_ _ | refine blk_drew ?_ | refine blk_alloc ?_ _)); exact BK135.out) Tryd.underlying23 rfl (by kernel_rfl)) rfl ?_
           exact ⟨by first | rfl | (simp [errW_none, errW_some] <;> rfl) | (simp only [← hji10]; first | rfl | (simp [errW_none, errW_some] <;> rfl)) | (simp [*, errW_none, errW_some] <;> rfl), bw⟩
         ·replace c17 := Bool.eq_false_iff.mpr c17
          subst c17
          rw [if_neg (show ¬ (false = true) by decide)] at H
          simp only [Option.some.injEq, Prod.mk.injEq] at H
          obtain ⟨rfl, rfl, rfl, rfl⟩ := H
          go_enter Tryd.func5, Tryd.ntmps5
          go_wp2_with (first | ((with_reducible refine gate_dst (N := 2) rfl ?_); refine bx 2 23 #[.int .i64 0, .bool false, .int .i64 0] ?_; intro gb135 hg w43 hbox hb; have BK135 := hbox; have GW135 := gs hg; have GE135 := gs hg; replace HB := bs hb; clear hb hbox hg) | ((with_reducible refine gate_callee (f := 10) rfl ?_); refine gl (some 11) Tryd.func10 #[.string a0, .string (⟨#[60, 62]⟩ : ByteArray)] ?_; (with_reducible refine (strings_IndexAny.calls a0 (⟨#[60, 62]⟩ : ByteArray) t136 _ A2.out).mono ?_); rintro e w44 ⟨rfl, hb⟩; refine ⟨_, rfl, ?_⟩; replace BK135 := nk BK135 hb; replace HB := bs hb; (try clear hb)) | ((with_reducible refine gate_callee (f := 11) rfl ?_); refine gl (some 19) Tryd.func11 #[.string (a0.extract 0 (t136 : Int).toNat)] ?_; (with_reducible refine (strconv_Atoi.calls (a0.extract 0 (t136 : Int).toNat) t137 none _ ?side1 A9.out).mono ?_); (case side1 => first | exact HMM.out | exact Dr.Tab.below HMM.out bw | (repeat (first | exact HMM.out | apply Dr.Tab.drewN | apply Dr.Tab.drew | apply Dr.Tab.alloc))); rintro e w45 ⟨q_, rfl, hb⟩; refine ⟨_, rfl, ?_⟩; replace BK135 := nk BK135 hb; replace HB := bs hb; (try clear hb); (try simp only [Option.map_none, Option.map_some, errW_none, errW_some])) | ((with_reducible refine gate_callee (f := 11) rfl ?_); refine goesL_ (some 27) rfl rfl Tryd.func11 (by kernel_rfl) rfl #[.string (a0.extract ((ji10) : Int).toNat a0.size)] rfl (by (try simp only [List.map_toArray, List.map_cons, List.map_nil]); first | done | (simp only [hji10]; rfl) | rfl | (simp only [List.length_drop, List.length_take]; rfl)) ?_; (with_reducible refine (strconv_Atoi.calls (a0.extract ((ji10) : Int).toNat a0.size) t139 none _ ?side1 A13.out).mono ?_); (case side1 => first | exact HMM.out | exact Dr.Tab.below HMM.out bw | (repeat (first | exact HMM.out | apply Dr.Tab.drewN | apply Dr.Tab.drew | apply Dr.Tab.alloc))); rintro e w46 ⟨q_, rfl, hb⟩; refine ⟨_, rfl, ?_⟩; replace BK135 := nk BK135 hb; replace HB := bs hb; (try clear hb); (try simp only [Option.map_none, Option.map_some, errW_none, errW_some]); have p15 : 0 ≤ (t136 : Int) := of_decide_eq_true (by first | (with_reducible assumption) | assumption); have q15 : t136 < (a0.size : Int) := of_decide_eq_true (by first | (with_reducible assumption) | assumption); have hx15 := bt_at a0 t136; replace p15 := eq_true p15; replace q15 := eq_true q15) | ((with_reducible refine gate_dst (N := 9) rfl ?_); refine bx 9 23 #[.int .i64 0, .bool false, .int .i64 0] ?_; intro gb141 hg w47 hbox hb; have BK141 := hbox; have GW141 := gs hg; have GE141 := gs hg; replace HB := bs hb; have NB135_141 := nl BK135 hg; have NB141_135 := ng BK135 hg; replace BK135 := nk BK135 hb; clear hb hbox hg; have hnb48 := NB141_135.out; have hnc48 := NB135_141.out; have hcz49_0 := bc BK141 0 (.int .i64 0); have hcz49_1 := bc BK141 1 (.bool false); have hcz49_2 := bc BK141 2 (.int .i64 0); have hfz49_0 := blk_frozen BK141.out 0; have hfz49_1 := blk_frozen BK141.out 1; have hfz49_2 := blk_frozen BK141.out 2) | (go_at_call 12; (with_reducible refine (impl_isSignal.calls 100 t137 ((bt a0 t136) == 60) t139 false _ A16.out).mono ?_); rintro e w50 ⟨rfl, hb⟩; replace BK135 := Aside0.mk (blk_below (g := gb135) (o := .cells #[.int .i64 0, .bool false, .int .i64 0] 23 (0, 0)) (by (with_reducible repeat (first | refine blk_drewN ?_ _ | refine blk_drew ?_ | refine blk_alloc ?_ _)); refine blk_far ?_ NB135_141.out _; (with_reducible repeat (first | refine blk_drewN ?_ _ | refine blk_drew ?_ | refine blk_alloc ?_ _)); refine blk_far ?_ NB135_141.out _; (with_reducible repeat (first | refine blk_drewN ?_ _ | refine blk_drew ?_ | refine blk_alloc ?_ _)); refine blk_far ?_ NB135_141.out _; (with_reducible repeat (first | refine blk_drewN ?_ _ | refine blk_drew ?_ | refine blk_alloc ?_ _)); exact BK135.out) hb); replace BK141 := Aside0.mk (blk_below (g := gb141) (o := .cells #[.int .i64 t137, .bool ((bt a0 t136) == 60), .int .i64 t139] 23 (0, 0)) (by (with_reducible repeat (first | refine blk_drewN ?_ _ | refine blk_drew ?_ | refine blk_alloc ?_ _)); refine blk_put (cs := #[.int .i64 t137, .bool ((bt a0 t136) == 60), .int .i64 0]) ?_ 2 _ rfl; (with_reducible repeat (first | refine blk_drewN ?_ _ | refine blk_drew ?_ | refine blk_alloc ?_ _)); refine blk_put (cs := #[.int .i64 t137, .bool false, .int .i64 0]) ?_ 1 _ rfl; (with_reducible repeat (first | refine blk_drewN ?_ _ | refine blk_drew ?_ | refine blk_alloc ?_ _)); refine blk_put (cs := #[.int .i64 0, .bool false, .int .i64 0]) ?_ 0 _ rfl; (with_reducible repeat (first | refine blk_drewN ?_ _ | refine blk_drew ?_ | refine blk_alloc ?_ _)); exact BK141.out) hb); replace HB := bs hb; (try clear hb); have hcz51_0 := bc BK135 0 (.int .i64 0); have hcz51_1 := bc BK135 1 (.bool false); have hcz51_2 := bc BK135 2 (.int .i64 0); have hfz51_0 := blk_frozen BK135.out 0; have hfz51_1 := blk_frozen BK135.out 1; have hfz51_2 := blk_frozen BK135.out 2))
          refine bodyPost_ret (results_ct rfl _ _ gb135 23 #[.int .i64 0, .bool false, .int .i64 0] (0, 0) _ rfl (by (with_reducible repeat (first | refine blk_drewN ?_ _ | refine blk_drew ?_ | refine blk_alloc ?_ _)); refine blk_put (cs := #[.int .i64 0, .bool false, .int .i64 0]) ?_ 2 _ rfl; (with_reducible repeat (first | refine blk_drewN ?_ _ | refine blk_drew ?_ | refine blk_alloc ?_ _)); refine blk_put (cs := #[.int .i64 0, .bool false, .int .i64 0]) ?_ 1 _ rfl; (with_reducible repeat (first | refine blk_drewN ?_ _ | refine blk_drew ?_ | refine blk_alloc ?_ _)); refine blk_put (cs := #[.int .i64 0, .bool false, .int .i64 0]) ?_ 0 _ rfl; (with_reducible repeat (first | refine blk_drewN ?_ _ | refine blk_drew ?_ | refine blk_alloc ?_ _)); exact BK135.out) Tryd.underlying23 rfl (by kernel_rfl)) rfl ?_
          exact ⟨by first | rfl | (simp [errW_none, errW_some] <;> rfl) | (simp only [← hji10]; first | rfl | (simp [errW_none, errW_some] <;> rfl)) | (simp [*, errW_none, errW_some] <;> rfl), bw⟩
        ·rw [if_neg (show ¬ (some q143).isNone = true by simp)] at H
         try simp only [errW_none, errW_some]
         simp only [Option.some.injEq, Prod.mk.injEq] at H
         obtain ⟨rfl, rfl, rfl, rfl⟩ := H
         go_enter Tryd.func5, Tryd.ntmps5
         go_wp2_with (first | ((with_reducible refine gate_dst (N := 2) rfl ?_); refine bx 2 23 #[.int .i64 0, .bool false, .int .i64 0] ?_; intro gb135 hg w52 hbox hb; have BK135 := hbox; have GW135 := gs hg; have GE135 := gs hg; replace HB := bs hb; clear hb hbox hg) | ((with_reducible refine gate_callee (f := 10) rfl ?_); refine gl (some 11) Tryd.func10 #[.string a0, .string (⟨#[60, 62]⟩ : ByteArray)] ?_; (with_reducible refine (strings_IndexAny.calls a0 (⟨#[60, 62]⟩ : ByteArray) t136 _ A2.out).mono ?_); rintro e w53 ⟨rfl, hb⟩; refine ⟨_, rfl, ?_⟩; replace BK135 := nk BK135 hb; replace HB := bs hb; (try clear hb)) | ((with_reducible refine gate_callee (f := 11) rfl ?_); refine gl (some 19) Tryd.func11 #[.string (a0.extract 0 (t136 : Int).toNat)] ?_; (with_reducible refine (strconv_Atoi.calls (a0.extract 0 (t136 : Int).toNat) t137 none _ ?side1 A9.out).mono ?_); (case side1 => first | exact HMM.out | exact Dr.Tab.below HMM.out bw | (repeat (first | exact HMM.out | apply Dr.Tab.drewN | apply Dr.Tab.drew | apply Dr.Tab.alloc))); rintro e w54 ⟨q_, rfl, hb⟩; refine ⟨_, rfl, ?_⟩; replace BK135 := nk BK135 hb; replace HB := bs hb; (try clear hb); (try simp only [Option.map_none, Option.map_some, errW_none, errW_some])) | ((with_reducible refine gate_callee (f := 11) rfl ?_); refine goesL_ (some 27) rfl rfl Tryd.func11 (by kernel_rfl) rfl #[.string (a0.extract ((ji10) : Int).toNat a0.size)] rfl (by (try simp only [List.map_toArray, List.map_cons, List.map_nil]); first | done | (simp only [hji10]; rfl) | rfl | (simp only [List.length_drop, List.length_take]; rfl)) ?_; (with_reducible refine (strconv_Atoi.calls (a0.extract ((ji10) : Int).toNat a0.size) t139 (some q143) _ ?side1 A13.out).mono ?_); (case side1 => first | exact HMM.out | exact Dr.Tab.below HMM.out bw | (repeat (first | exact HMM.out | apply Dr.Tab.drewN | apply Dr.Tab.drew | apply Dr.Tab.alloc))); rintro e w55 ⟨q_, rfl, hb⟩; refine ⟨_, rfl, ?_⟩; replace BK135 := nk BK135 hb; replace HB := bs hb; (try clear hb); (try simp only [Option.map_none, Option.map_some, errW_none, errW_some]); have p15 : 0 ≤ (t136 : Int) := of_decide_eq_true (by first | (with_reducible assumption) | assumption); have q15 : t136 < (a0.size : Int) := of_decide_eq_true (by first | (with_reducible assumption) | assumption); have hx15 := bt_at a0 t136; replace p15 := eq_true p15; replace q15 := eq_true q15) | ((with_reducible refine gate_dst (N := 9) rfl ?_); refine bx 9 23 #[.int .i64 0, .bool false, .int .i64 0] ?_; intro gb141 hg w56 hbox hb; have BK141 := hbox; have GW141 := gs hg; have GE141 := gs hg; replace HB := bs hb; have NB135_141 := nl BK135 hg; have NB141_135 := ng BK135 hg; replace BK135 := nk BK135 hb; clear hb hbox hg; have hnb57 := NB141_135.out; have hnc57 := NB135_141.out; have hcz58_0 := bc BK141 0 (.int .i64 0); have hcz58_1 := bc BK141 1 (.bool false); have hcz58_2 := bc BK141 2 (.int .i64 0); have hfz58_0 := blk_frozen BK141.out 0; have hfz58_1 := blk_frozen BK141.out 1; have hfz58_2 := blk_frozen BK141.out 2; have hcz59_0 := bc BK135 0 (.int .i64 0); have hcz59_1 := bc BK135 1 (.bool false); have hcz59_2 := bc BK135 2 (.int .i64 0); have hfz59_0 := blk_frozen BK135.out 0; have hfz59_1 := blk_frozen BK135.out 1; have hfz59_2 := blk_frozen BK135.out 2))
         refine bodyPost_ret (results_ct rfl _ _ gb135 23 #[.int .i64 0, .bool false, .int .i64 0] (0, 0) _ rfl (by (with_reducible repeat (first | refine blk_drewN ?_ _ | refine blk_drew ?_ | refine blk_alloc ?_ _)); refine blk_put (cs := #[.int .i64 0, .bool false, .int .i64 0]) ?_ 2 _ rfl; (with_reducible repeat (first | refine blk_drewN ?_ _ | refine blk_drew ?_ | refine blk_alloc ?_ _)); refine blk_put (cs := #[.int .i64 0, .bool false, .int .i64 0]) ?_ 1 _ rfl; (with_reducible repeat (first | refine blk_drewN ?_ _ | refine blk_drew ?_ | refine blk_alloc ?_ _)); refine blk_put (cs := #[.int .i64 0, .bool false, .int .i64 0]) ?_ 0 _ rfl; (with_reducible repeat (first | refine blk_drewN ?_ _ | refine blk_drew ?_ | refine blk_alloc ?_ _)); refine blk_far ?_ NB135_141.out _; (with_reducible repeat (first | refine blk_drewN ?_ _ | refine blk_drew ?_ | refine blk_alloc ?_ _)); refine blk_far ?_ NB135_141.out _; (with_reducible repeat (first | refine blk_drewN ?_ _ | refine blk_drew ?_ | refine blk_alloc ?_ _)); refine blk_far ?_ NB135_141.out _; (with_reducible repeat (first | refine blk_drewN ?_ _ | refine blk_drew ?_ | refine blk_alloc ?_ _)); exact BK135.out) Tryd.underlying23 rfl (by kernel_rfl)) rfl ?_
         exact ⟨by first | rfl | (simp [errW_none, errW_some] <;> rfl) | (simp only [← hji10]; first | rfl | (simp [errW_none, errW_some] <;> rfl)) | (simp [*, errW_none, errW_some] <;> rfl), bw⟩
       ·rw [if_neg (show ¬ (some q142).isNone = true by simp)] at H
        try simp only [errW_none, errW_some]
        simp only [Option.some.injEq, Prod.mk.injEq] at H
        obtain ⟨rfl, rfl, rfl, rfl⟩ := H
        go_enter Tryd.func5, Tryd.ntmps5
        go_wp2_with (first | ((with_reducible refine gate_dst (N := 2) rfl ?_); refine bx 2 23 #[.int .i64 0, .bool false, .int .i64 0] ?_; intro gb135 hg w60 hbox hb; have BK135 := hbox; have GW135 := gs hg; have GE135 := gs hg; replace HB := bs hb; clear hb hbox hg) | ((with_reducible refine gate_callee (f := 10) rfl ?_); refine gl (some 11) Tryd.func10 #[.string a0, .string (⟨#[60, 62]⟩ : ByteArray)] ?_; (with_reducible refine (strings_IndexAny.calls a0 (⟨#[60, 62]⟩ : ByteArray) t136 _ A2.out).mono ?_); rintro e w61 ⟨rfl, hb⟩; refine ⟨_, rfl, ?_⟩; replace BK135 := nk BK135 hb; replace HB := bs hb; (try clear hb)) | ((with_reducible refine gate_callee (f := 11) rfl ?_); refine gl (some 19) Tryd.func11 #[.string (a0.extract 0 (t136 : Int).toNat)] ?_; (with_reducible refine (strconv_Atoi.calls (a0.extract 0 (t136 : Int).toNat) t137 (some q142) _ ?side1 A9.out).mono ?_); (case side1 => first | exact HMM.out | exact Dr.Tab.below HMM.out bw | (repeat (first | exact HMM.out | apply Dr.Tab.drewN | apply Dr.Tab.drew | apply Dr.Tab.alloc))); rintro e w62 ⟨q_, rfl, hb⟩; refine ⟨_, rfl, ?_⟩; replace BK135 := nk BK135 hb; replace HB := bs hb; (try clear hb); (try simp only [Option.map_none, Option.map_some, errW_none, errW_some])) | ((with_reducible refine gate_callee (f := 11) rfl ?_); refine goesL_ (some 27) rfl rfl Tryd.func11 (by kernel_rfl) rfl #[.string (a0.extract ((ji10) : Int).toNat a0.size)] rfl (by (try simp only [List.map_toArray, List.map_cons, List.map_nil]); first | done | (simp only [hji10]; rfl) | rfl | (simp only [List.length_drop, List.length_take]; rfl)) ?_; (with_reducible refine (strconv_Atoi.calls (a0.extract ((ji10) : Int).toNat a0.size) t139 t140 _ ?side1 A13.out).mono ?_); (case side1 => first | exact HMM.out | exact Dr.Tab.below HMM.out bw | (repeat (first | exact HMM.out | apply Dr.Tab.drewN | apply Dr.Tab.drew | apply Dr.Tab.alloc))); rintro e w63 ⟨q_, rfl, hb⟩; refine ⟨_, rfl, ?_⟩; replace BK135 := nk BK135 hb; replace HB := bs hb; (try clear hb); (try simp only [Option.map_none, Option.map_some, errW_none, errW_some]); have p15 : 0 ≤ (t136 : Int) := of_decide_eq_true (by first | (with_reducible assumption) | assumption); have q15 : t136 < (a0.size : Int) := of_decide_eq_true (by first | (with_reducible assumption) | assumption); have hx15 := bt_at a0 t136; replace p15 := eq_true p15; replace q15 := eq_true q15) | ((with_reducible refine gate_dst (N := 9) rfl ?_); refine bx 9 23 #[.int .i64 0, .bool false, .int .i64 0] ?_; intro gb141 hg w64 hbox hb; have BK141 := hbox; have GW141 := gs hg; have GE141 := gs hg; replace HB := bs hb; have NB135_141 := nl BK135 hg; have NB141_135 := ng BK135 hg; replace BK135 := nk BK135 hb; clear hb hbox hg; have hnb65 := NB141_135.out; have hnc65 := NB135_141.out; have hcz66_0 := bc BK141 0 (.int .i64 0); have hcz66_1 := bc BK141 1 (.bool false); have hcz66_2 := bc BK141 2 (.int .i64 0); have hfz66_0 := blk_frozen BK141.out 0; have hfz66_1 := blk_frozen BK141.out 1; have hfz66_2 := blk_frozen BK141.out 2; have hcz67_0 := bc BK135 0 (.int .i64 0); have hcz67_1 := bc BK135 1 (.bool false); have hcz67_2 := bc BK135 2 (.int .i64 0); have hfz67_0 := blk_frozen BK135.out 0; have hfz67_1 := blk_frozen BK135.out 1; have hfz67_2 := blk_frozen BK135.out 2))
        refine bodyPost_ret (results_ct rfl _ _ gb135 23 #[.int .i64 0, .bool false, .int .i64 0] (0, 0) _ rfl (by (with_reducible repeat (first | refine blk_drewN ?_ _ | refine blk_drew ?_ | refine blk_alloc ?_ _)); refine blk_put (cs := #[.int .i64 0, .bool false, .int .i64 0]) ?_ 2 _ rfl; (with_reducible repeat (first | refine blk_drewN ?_ _ | refine blk_drew ?_ | refine blk_alloc ?_ _)); refine blk_put (cs := #[.int .i64 0, .bool false, .int .i64 0]) ?_ 1 _ rfl; (with_reducible repeat (first | refine blk_drewN ?_ _ | refine blk_drew ?_ | refine blk_alloc ?_ _)); refine blk_put (cs := #[.int .i64 0, .bool false, .int .i64 0]) ?_ 0 _ rfl; (with_reducible repeat (first | refine blk_drewN ?_ _ | refine blk_drew ?_ | refine blk_alloc ?_ _)); refine blk_far ?_ NB135_141.out _; (with_reducible repeat (first | refine blk_drewN ?_ _ | refine blk_drew ?_ | refine blk_alloc ?_ _)); refine blk_far ?_ NB135_141.out _; (with_reducible repeat (first | refine blk_drewN ?_ _ | refine blk_drew ?_ | refine blk_alloc ?_ _)); refine blk_far ?_ NB135_141.out _; (with_reducible repeat (first | refine blk_drewN ?_ _ | refine blk_drew ?_ | refine blk_alloc ?_ _)); exact BK135.out) Tryd.underlying23 rfl (by kernel_rfl)) rfl ?_
        exact ⟨by first | rfl | (simp [errW_none, errW_some] <;> rfl) | (simp only [← hji10]; first | rfl | (simp [errW_none, errW_some] <;> rfl)) | (simp [*, errW_none, errW_some] <;> rfl), bw⟩
      ·rw [if_neg c14] at H
       exact absurd H (by simp)
     ·rw [if_neg c12] at H
      exact absurd H (by simp)
    ·rw [if_neg c11] at H
     exact absurd H (by simp)
   ·rw [if_neg c8] at H
    exact absurd H (by simp)
  ·rw [if_neg c7] at H
   exact absurd H (by simp)

/-! ### laws_eqSignal: function 6 -/
def laws_eqSignal.f (a0_0 : Int) (a0_1 : Bool) (a0_2 : Int) (a1_0 : Int) (a1_1 : Bool) (a1_2 : Int) : Option (Bool) := if a0_0 = a1_0 then (if (a0_1 != a1_1) = true then (some false) else (if a0_2 = a1_2 then (some true) else (some false))) else (some false)
set_option maxHeartbeats 8000000 in
set_option maxRecDepth 100000 in
theorem laws_eqSignal.calls (a0_0 : Int) (a0_1 : Bool) (a0_2 : Int) (a1_0 : Int) (a1_1 : Bool) (a1_2 : Int) (r : Bool) (w : World) (h : laws_eqSignal.f a0_0 a0_1 a0_2 a1_0 a1_1 a1_2 = some r) :
  Calls Tryd.prog 6 #[.agg #[.int .i64 a0_0, .bool a0_1, .int .i64 a0_2], .agg #[.int .i64 a1_0, .bool a1_1, .int .i64 a1_2]] w fun e w' => e = .returned (.bool r) ∧ Below w.heap.size w w' := by
 have hu23 := Tryd.underlying23
 have HB := Aside0.mk (Below.refl w.heap.size w)
 unfold laws_eqSignal.f at h
 have H := h
 clear h
 by_cases c3 : a0_0 = a1_0
 ·rw [if_pos c3] at H
  have c3b0 : (a0_0 == a1_0) = true := beq_iff_eq.mpr c3
  have c3b1 : (a0_0 != a1_0) = false := bne_eq_false_iff_eq.mpr c3
  clear c3
  by_cases c4 : (a0_1 != a1_1) = true
  ·rw [if_pos c4] at H
   have c4b0 : (a0_1 != a1_1) = true := c4
   (try (have c4b1 : decide (a0_1 = a1_1) = false := by simpa using c4))
   (try (have c4b2 : (a0_1 == a1_1) = false := by simpa using c4))
   (try (have c4b3 : ¬ (a0_1 = a1_1) := by simpa using c4))
   clear c4
   obtain rfl := Option.some.inj H
   go_enter Tryd.func6, Tryd.ntmps6
   go_wp2_with (first | ((with_reducible refine gate_dst (N := 2) rfl ?_); refine bx 2 23 #[.int .i64 a0_0, .bool a0_1, .int .i64 a0_2] ?_; intro gb146 hg w5 hbox hb; have BK146 := hbox; have GW146 := gs hg; have GE146 := gs hg; replace HB := bs hb; clear hb hbox hg) | ((with_reducible refine gate_dst (N := 3) rfl ?_); refine bx 3 23 #[.int .i64 a1_0, .bool a1_1, .int .i64 a1_2] ?_; intro gb147 hg w6 hbox hb; have BK147 := hbox; have GW147 := gs hg; have GE147 := gs hg; replace HB := bs hb; have NB146_147 := nl BK146 hg; have NB147_146 := ng BK146 hg; replace BK146 := nk BK146 hb; clear hb hbox hg; have hnb7 := NB146_147.out; have hnc7 := NB147_146.out; have hcz8_0 := bc BK146 0 (.int .i64 a0_0); have hcz8_1 := bc BK146 1 (.bool a0_1); have hcz8_2 := bc BK146 2 (.int .i64 a0_2); have hfz8_0 := blk_frozen BK146.out 0; have hfz8_1 := blk_frozen BK146.out 1; have hfz8_2 := blk_frozen BK146.out 2; have hcz9_0 := bc BK147 0 (.int .i64 a1_0); have hcz9_1 := bc BK147 1 (.bool a1_1); have hcz9_2 := bc BK147 2 (.int .i64 a1_2); have hfz9_0 := blk_frozen BK147.out 0; have hfz9_1 := blk_frozen BK147.out 1; have hfz9_2 := blk_frozen BK147.out 2))
   go_ret
   exact ⟨rs, bw⟩
  ·rw [if_neg c4] at H
   have c4b0 : (a0_1 != a1_1) = false := by simpa using c4
   (try (have c4b1 : decide (a0_1 = a1_1) = true := by simpa using c4))
   (try (have c4b2 : (a0_1 == a1_1) = true := by simpa using c4))
   clear c4
   by_cases c10 : a0_2 = a1_2
   ·rw [if_pos c10] at H
    have c10b0 : (a0_2 == a1_2) = true := beq_iff_eq.mpr c10
    have c10b1 : (a0_2 != a1_2) = false := bne_eq_false_iff_eq.mpr c10
    clear c10
    obtain rfl := Option.some.inj H
    go_enter Tryd.func6, Tryd.ntmps6
    go_wp2_with (first | ((with_reducible refine gate_dst (N := 2) rfl ?_); refine bx 2 23 #[.int .i64 a0_0, .bool a0_1, .int .i64 a0_2] ?_; intro gb146 hg w11 hbox hb; have BK146 := hbox; have GW146 := gs hg; have GE146 := gs hg; replace HB := bs hb; clear hb hbox hg) | ((with_reducible refine gate_dst (N := 3) rfl ?_); refine bx 3 23 #[.int .i64 a1_0, .bool a1_1, .int .i64 a1_2] ?_; intro gb147 hg w12 hbox hb; have BK147 := hbox; have GW147 := gs hg; have GE147 := gs hg; replace HB := bs hb; have NB146_147 := nl BK146 hg; have NB147_146 := ng BK146 hg; replace BK146 := nk BK146 hb; clear hb hbox hg; have hnb13 := NB146_147.out; have hnc13 := NB147_146.out; have hcz14_0 := bc BK146 0 (.int .i64 a0_0); have hcz14_1 := bc BK146 1 (.bool a0_1); have hcz14_2 := bc BK146 2 (.int .i64 a0_2); have hfz14_0 := blk_frozen BK146.out 0; have hfz14_1 := blk_frozen BK146.out 1; have hfz14_2 := blk_frozen BK146.out 2; have hcz15_0 := bc BK147 0 (.int .i64 a1_0); have hcz15_1 := bc BK147 1 (.bool a1_1); have hcz15_2 := bc BK147 2 (.int .i64 a1_2); have hfz15_0 := blk_frozen BK147.out 0; have hfz15_1 := blk_frozen BK147.out 1; have hfz15_2 := blk_frozen BK147.out 2))
    go_ret
    exact ⟨rs, bw⟩
   ·rw [if_neg c10] at H
    have c10b0 : (a0_2 == a1_2) = false := beq_eq_false_iff_ne.mpr c10
    have c10b1 : (a0_2 != a1_2) = true := bne_iff_ne.mpr c10
    obtain rfl := Option.some.inj H
    go_enter Tryd.func6, Tryd.ntmps6
    go_wp2_with (first | ((with_reducible refine gate_dst (N := 2) rfl ?_); refine bx 2 23 #[.int .i64 a0_0, .bool a0_1, .int .i64 a0_2] ?_; intro gb146 hg w16 hbox hb; have BK146 := hbox; have GW146 := gs hg; have GE146 := gs hg; replace HB := bs hb; clear hb hbox hg) | ((with_reducible refine gate_dst (N := 3) rfl ?_); refine bx 3 23 #[.int .i64 a1_0, .bool a1_1, .int .i64 a1_2] ?_; intro gb147 hg w17 hbox hb; have BK147 := hbox; have GW147 := gs hg; have GE147 := gs hg; replace HB := bs hb; have NB146_147 := nl BK146 hg; have NB147_146 := ng BK146 hg; replace BK146 := nk BK146 hb; clear hb hbox hg; have hnb18 := NB146_147.out; have hnc18 := NB147_146.out; have hcz19_0 := bc BK146 0 (.int .i64 a0_0); have hcz19_1 := bc BK146 1 (.bool a0_1); have hcz19_2 := bc BK146 2 (.int .i64 a0_2); have hfz19_0 := blk_frozen BK146.out 0; have hfz19_1 := blk_frozen BK146.out 1; have hfz19_2 := blk_frozen BK146.out 2; have hcz20_0 := bc BK147 0 (.int .i64 a1_0); have hcz20_1 := bc BK147 1 (.bool a1_1); have hcz20_2 := bc BK147 2 (.int .i64 a1_2); have hfz20_0 := blk_frozen BK147.out 0; have hfz20_1 := blk_frozen BK147.out 1; have hfz20_2 := blk_frozen BK147.out 2))
    go_ret
    exact ⟨rs, bw⟩
 ·rw [if_neg c3] at H
  have c3b0 : (a0_0 == a1_0) = false := beq_eq_false_iff_ne.mpr c3
  have c3b1 : (a0_0 != a1_0) = true := bne_iff_ne.mpr c3
  obtain rfl := Option.some.inj H
  go_enter Tryd.func6, Tryd.ntmps6
  go_wp2_with (first | ((with_reducible refine gate_dst (N := 2) rfl ?_); refine bx 2 23 #[.int .i64 a0_0, .bool a0_1, .int .i64 a0_2] ?_; intro gb146 hg w21 hbox hb; have BK146 := hbox; have GW146 := gs hg; have GE146 := gs hg; replace HB := bs hb; clear hb hbox hg) | ((with_reducible refine gate_dst (N := 3) rfl ?_); refine bx 3 23 #[.int .i64 a1_0, .bool a1_1, .int .i64 a1_2] ?_; intro gb147 hg w22 hbox hb; have BK147 := hbox; have GW147 := gs hg; have GE147 := gs hg; replace HB := bs hb; have NB146_147 := nl BK146 hg; have NB147_146 := ng BK146 hg; replace BK146 := nk BK146 hb; clear hb hbox hg; have hnb23 := NB146_147.out; have hnc23 := NB147_146.out; have hcz24_0 := bc BK146 0 (.int .i64 a0_0); have hcz24_1 := bc BK146 1 (.bool a0_1); have hcz24_2 := bc BK146 2 (.int .i64 a0_2); have hfz24_0 := blk_frozen BK146.out 0; have hfz24_1 := blk_frozen BK146.out 1; have hfz24_2 := blk_frozen BK146.out 2; have hcz25_0 := bc BK147 0 (.int .i64 a1_0); have hcz25_1 := bc BK147 1 (.bool a1_1); have hcz25_2 := bc BK147 2 (.int .i64 a1_2); have hfz25_0 := blk_frozen BK147.out 0; have hfz25_1 := blk_frozen BK147.out 1; have hfz25_2 := blk_frozen BK147.out 2))
  go_ret
  exact ⟨rs, bw⟩

/-! ### laws_FnExactParseSignal: function 3 -/
def laws_FnExactParseSignal.f (k : Nat) (a0 : ByteArray) : Option (Bool) := if (a0.size : Int) > 1048576 then (some true) else ((spec_ParseSignal.f k a0).bind fun bt148 => ((impl_ParseSignal.f a0).bind fun bt153 => ((laws_eqSignal.f bt153.1 bt153.2.1 bt153.2.2.1 bt148.1 bt148.2.1 bt148.2.2.1).bind fun t158 => (if t158 = true then (if (bt153.2.2.2 != bt148.2.2.2) = true then (some false) else (some true)) else (some false)))))
theorem laws_FnExactParseSignal.mono : ∀ a0 k, LeO (laws_FnExactParseSignal.f k a0) (laws_FnExactParseSignal.f (k + 1) a0) := by
  intro a0 k
  unfold laws_FnExactParseSignal.f
  repeat' first
      | (with_reducible exact spec_ParseSignal.mono _ _)
      | (with_reducible exact LeO.refl _)
      | (with_reducible exact LeO.none _)
      | (with_reducible refine LeO.ite ?_ ?_)
      | (with_reducible refine LeO.bind ?_ (fun _ => ?_))
      | exact spec_ParseSignal.mono _ _
      | exact LeO.none _
      | refine LeO.ite ?_ ?_
      | refine LeO.bind ?_ (fun _ => ?_)
set_option maxHeartbeats 8000000 in
set_option maxRecDepth 100000 in
theorem laws_FnExactParseSignal.calls (k : Nat) (a0 : ByteArray) (r : Bool) (w : World) (hm : Dr.Tab w) (hrt : r = true) (h : laws_FnExactParseSignal.f k a0 = some r) :
  Calls Tryd.prog 3 #[.string a0] w fun e w' => e = .returned (.bool r) ∧ Below w.heap.size w w' := by
 have hu23 := Tryd.underlying23
 have HB := Aside0.mk (Below.refl w.heap.size w)
 have HRT := Aside0.mk hrt
 clear hrt
 have HMM := Aside0.mk hm
 clear hm
 unfold laws_FnExactParseSignal.f at h
 have H := h
 clear h
 by_cases c2 : (a0.size : Int) > 1048576
 ·rw [if_pos c2] at H
  have c2b0 : decide (1048576 < (a0.size : Int)) = true := decide_eq_true c2
  have c2b1 : decide (1048576 < a0.size) = true := decide_eq_true (by omega)
  clear c2
  obtain rfl := Option.some.inj H
  go_enter Tryd.func3, Tryd.ntmps3
  go_wp2
  go_ret
  exact ⟨rs, bw⟩
 ·rw [if_neg c2] at H
  have c2b0 : decide (1048576 < (a0.size : Int)) = false := decide_eq_false c2
  have c2b1 : decide (1048576 < a0.size) = false := decide_eq_false (by omega)
  clear c2
  replace H := Option.bind_eq_some_iff.mp H
  obtain ⟨⟨t148, t149, t150, t151⟩, A30, H⟩ := H
  (try dsimp only at H)
  have A3 := Aside0.mk A30
  clear A30
  replace H := Option.bind_eq_some_iff.mp H
  obtain ⟨⟨t153, t154, t155, t156⟩, A40, H⟩ := H
  (try dsimp only at H)
  have A4 := Aside0.mk A40
  clear A40
  replace H := Option.bind_eq_some_iff.mp H
  obtain ⟨t158, A50, H⟩ := H
  (try dsimp only at H)
  have A5 := Aside0.mk A50
  clear A50
  by_cases c6 : t158 = true
  ·subst c6
   rw [if_pos rfl] at H
   by_cases c7 : (t156 != t151) = true
   ·rw [if_pos c7] at H
    have c7b0 : (t156 != t151) = true := c7
    (try (have c7b1 : decide (t156 = t151) = false := by simpa using c7))
    (try (have c7b2 : (t156 == t151) = false := by simpa using c7))
    (try (have c7b3 : ¬ (t156 = t151) := by simpa using c7))
    clear c7
    exact absurd (Option.some.inj H) (by rw [HRT.out]; decide)
   ·rw [if_neg c7] at H
    have c7b0 : (t156 != t151) = false := by simpa using c7
    (try (have c7b1 : decide (t156 = t151) = true := by simpa using c7))
    (try (have c7b2 : (t156 == t151) = true := by simpa using c7))
    clear c7
    obtain rfl := Option.some.inj H
    go_enter Tryd.func3, Tryd.ntmps3
    go_wp2_with (first | ((with_reducible refine gate_callee (f := 4) rfl ?_); refine gl (some 12) Tryd.func4 #[.string a0] ?_; (with_reducible refine (spec_ParseSignal.calls k a0 t148 t149 t150 t151 _ A3.out).mono ?_); rintro e w8 ⟨rfl, hb⟩; refine ⟨_, rfl, ?_⟩; replace HB := bs hb; (try clear hb)) | ((with_reducible refine gate_dst (N := 3) rfl ?_); refine bx 3 23 #[.int .i64 0, .bool false, .int .i64 0] ?_; intro gb152 hg w9 hbox hb; have BK152 := hbox; have GW152 := gs hg; have GE152 := gs hg; replace HB := bs hb; clear hb hbox hg; have hcz10_0 := bc BK152 0 (.int .i64 0); have hcz10_1 := bc BK152 1 (.bool false); have hcz10_2 := bc BK152 2 (.int .i64 0); have hfz10_0 := blk_frozen BK152.out 0; have hfz10_1 := blk_frozen BK152.out 1; have hfz10_2 := blk_frozen BK152.out 2) | ((with_reducible refine gate_callee (f := 5) rfl ?_); refine gl (some 17) Tryd.func5 #[.string a0] ?_; (with_reducible refine (impl_ParseSignal.calls a0 t153 t154 t155 t156 _ ?side1 A4.out).mono ?_); (case side1 => first | exact HMM.out | exact Dr.Tab.below HMM.out bw | (repeat (first | exact HMM.out | apply Dr.Tab.drewN | apply Dr.Tab.drew | apply Dr.Tab.alloc))); rintro e w11 ⟨rfl, hb⟩; refine ⟨_, rfl, ?_⟩; replace BK152 := Aside0.mk (blk_below (g := gb152) (o := .cells #[.int .i64 t148, .bool t149, .int .i64 t150] 23 (0, 0)) (by (with_reducible repeat (first | refine blk_drewN ?_ _ | refine blk_drew ?_ | refine blk_alloc ?_ _)); refine blk_put (cs := #[.int .i64 t148, .bool t149, .int .i64 0]) ?_ 2 _ rfl; (with_reducible repeat (first | refine blk_drewN ?_ _ | refine blk_drew ?_ | refine blk_alloc ?_ _)); refine blk_put (cs := #[.int .i64 t148, .bool false, .int .i64 0]) ?_ 1 _ rfl; (with_reducible repeat (first | refine blk_drewN ?_ _ | refine blk_drew ?_ | refine blk_alloc ?_ _)); refine blk_put (cs := #[.int .i64 0, .bool false, .int .i64 0]) ?_ 0 _ rfl; (with_reducible repeat (first | refine blk_drewN ?_ _ | refine blk_drew ?_ | refine blk_alloc ?_ _)); exact BK152.out) hb); replace HB := bs hb; (try clear hb)) | ((with_reducible refine gate_dst (N := 5) rfl ?_); refine bx 5 23 #[.int .i64 0, .bool false, .int .i64 0] ?_; intro gb157 hg w12 hbox hb; have BK157 := hbox; have GW157 := gs hg; have GE157 := gs hg; replace HB := bs hb; have NB152_157 := nl BK152 hg; have NB157_152 := ng BK152 hg; replace BK152 := nk BK152 hb; clear hb hbox hg; have hnb13 := NB157_152.out; have hnc13 := NB152_157.out; have hcz14_0 := bc BK157 0 (.int .i64 0); have hcz14_1 := bc BK157 1 (.bool false); have hcz14_2 := bc BK157 2 (.int .i64 0); have hfz14_0 := blk_frozen BK157.out 0; have hfz14_1 := blk_frozen BK157.out 1; have hfz14_2 := blk_frozen BK157.out 2; have hcz15_0 := bc BK152 0 (.int .i64 t148); have hcz15_1 := bc BK152 1 (.bool t149); have hcz15_2 := bc BK152 2 (.int .i64 t150); have hfz15_0 := blk_frozen BK152.out 0; have hfz15_1 := blk_frozen BK152.out 1; have hfz15_2 := blk_frozen BK152.out 2) | ((with_reducible refine gate_callee (f := 6) rfl ?_); refine gl (some 22) Tryd.func6 #[.agg #[.int .i64 t153, .bool t154, .int .i64 t155], .agg #[.int .i64 t148, .bool t149, .int .i64 t150]] ?_; (with_reducible refine (laws_eqSignal.calls t153 t154 t155 t148 t149 t150 true _ A5.out).mono ?_); rintro e w16 ⟨rfl, hb⟩; refine ⟨_, rfl, ?_⟩; replace BK152 := Aside0.mk (blk_below (g := gb152) (o := .cells #[.int .i64 t148, .bool t149, .int .i64 t150] 23 (0, 0)) (by (with_reducible repeat (first | refine blk_drewN ?_ _ | refine blk_drew ?_ | refine blk_alloc ?_ _)); refine blk_far ?_ NB152_157.out _; (with_reducible repeat (first | refine blk_drewN ?_ _ | refine blk_drew ?_ | refine blk_alloc ?_ _)); refine blk_far ?_ NB152_157.out _; (with_reducible repeat (first | refine blk_drewN ?_ _ | refine blk_drew ?_ | refine blk_alloc ?_ _)); refine blk_far ?_ NB152_157.out _; (with_reducible repeat (first | refine blk_drewN ?_ _ | refine blk_drew ?_ | refine blk_alloc ?_ _)); exact BK152.out) hb); replace BK157 := Aside0.mk (blk_below (g := gb157) (o := .cells #[.int .i64 t153, .bool t154, .int .i64 t155] 23 (0, 0)) (by (with_reducible repeat (first | refine blk_drewN ?_ _ | refine blk_drew ?_ | refine blk_alloc ?_ _)); refine blk_put (cs := #[.int .i64 t153, .bool t154, .int .i64 0]) ?_ 2 _ rfl; (with_reducible repeat (first | refine blk_drewN ?_ _ | refine blk_drew ?_ | refine blk_alloc ?_ _)); refine blk_put (cs := #[.int .i64 t153, .bool false, .int .i64 0]) ?_ 1 _ rfl; (with_reducible repeat (first | refine blk_drewN ?_ _ | refine blk_drew ?_ | refine blk_alloc ?_ _)); refine blk_put (cs := #[.int .i64 0, .bool false, .int .i64 0]) ?_ 0 _ rfl; (with_reducible repeat (first | refine blk_drewN ?_ _ | refine blk_drew ?_ | refine blk_alloc ?_ _)); exact BK157.out) hb); replace HB := bs hb; (try clear hb)))
    go_ret
    exact ⟨rs, bw⟩
  ·replace c6 := Bool.eq_false_iff.mpr c6
   subst c6
   rw [if_neg (show ¬ (false = true) by decide)] at H
   exact absurd (Option.some.inj H) (by rw [HRT.out]; decide)

end Go.Proofs.YtilaakmggfjcbaaDoor.PFnExactParseSignal
