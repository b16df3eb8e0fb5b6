-- Laid by xprint, a program of this session that runs over the kit's print.
import Derived.Test.YtjnkjnpopejgaaaPFnExactBestStartsx0
import Derived.Test.YtjnkjnpopejgaaaPFnExactBestStartsx1
namespace Go.Proofs.Ytjnkjnpopejgaaa.PFnExactBestStarts
open Go.RowKit Go.Proofs.YtjnkjnpopejgaaaW.PrintWords Go.Proofs.YtjnkjnpopejgaaaW.PrintLast Go.Proofs.YtjnkjnpopejgaaaW.PrintMore Go.Proofs.Ytjnkjnpopejgaaa.Sq
attribute [local go_sem] max2_int min2_int max_two min_two max_three min_three max_four min_four   -- for this text's walks alone
set_option linter.unusedVariables false
set_option linter.unusedSimpArgs false

/-! ### impl_leastTimeWith: function 13 -/
def impl_leastTimeWith.l0 : Nat → Int → Int → Int → Option (Int)
  | 0, _, _, _ => none
  | k + 1, x0, x1, x5 => if (wrap64 ((wrap64 ((wrap64 (2 * x5)) + 1)) * x1)) < x0 then (impl_leastTimeWith.l0 k x0 x1 (wrap64 (x5 + 1))) else (some x5)
def impl_leastTimeWith.f (k : Nat) (a0 : Int) (a1 : Int) : Option (Int) := impl_leastTimeWith.l0 k a0 a1 0
theorem impl_leastTimeWith.mono_l : ∀ k, (∀ y0 y1 y2, LeO (impl_leastTimeWith.l0 k y0 y1 y2) (impl_leastTimeWith.l0 (k + 1) y0 y1 y2))
  | 0 => fun _ _ _ r h => by simp [impl_leastTimeWith.l0] at h
  | k + 1 => by
    have ih0 := impl_leastTimeWith.mono_l k
    · intro y0 y1 y2
      unfold impl_leastTimeWith.l0
      repeat' first
      | (with_reducible exact ih0 _ _ _)
      | (with_reducible exact LeO.refl _)
      | (with_reducible exact LeO.none _)
      | (with_reducible refine LeO.ite ?_ ?_)
      | (with_reducible refine LeO.bind ?_ (fun _ => ?_))
      | exact ih0 _ _ _
      | exact LeO.none _
      | refine LeO.ite ?_ ?_
      | refine LeO.bind ?_ (fun _ => ?_)
theorem impl_leastTimeWith.mono : ∀ a0 a1 k, LeO (impl_leastTimeWith.f k a0 a1) (impl_leastTimeWith.f (k + 1) a0 a1) := by
  intro a0 a1 k
  have ih0 := impl_leastTimeWith.mono_l k
  unfold impl_leastTimeWith.f
  repeat' first
      | (with_reducible exact ih0 _ _ _)
      | (with_reducible exact LeO.refl _)
      | (with_reducible exact LeO.none _)
      | (with_reducible refine LeO.ite ?_ ?_)
      | (with_reducible refine LeO.bind ?_ (fun _ => ?_))
      | exact ih0 _ _ _
      | exact LeO.none _
      | refine LeO.ite ?_ ?_
      | refine LeO.bind ?_ (fun _ => ?_)
set_option maxHeartbeats 8000000 in
set_option maxRecDepth 100000 in
theorem impl_leastTimeWith.calls (k : Nat) (a0 : Int) (a1 : Int) (r : Int) (w : World) (h : impl_leastTimeWith.f k a0 a1 = some r) :
  Calls Try.prog 13 #[.int .i64 a0, .int .i64 a1] w fun e w' => e = .returned (.int .i64 r) ∧ Drawn0 w w' := by
 unfold impl_leastTimeWith.f at h
 have H := h
 clear h
 have H' := Aside0.mk H
 clear H
 go_enter Try.func13, Try.ntmps13
 go_wp2
 go_loopg [5] k (fun kq v5 w' => ∃ (x5_1 : Int), v5 = .int .i64 x5_1 ∧ Aside0 (impl_leastTimeWith.l0 kq a0 a1 x5_1 = some r) ∧ Aside0 (kq ≤ k) ∧ Drawn0 w w')
 case atStart => exact ⟨(0), (rs), H', ⟨Nat.le_refl _⟩, by repeat (first | exact Drawn0.refl _ | apply Drawn0.step)⟩
 case round =>
  clear H'
  try clear c1
  try clear p2
  obtain ⟨x5_1, rfl, HA, HK1, ⟨m1, rfl⟩⟩ := hrel
  cases gk with
  | zero => exact absurd HA.out (by simp [impl_leastTimeWith.l0])
  | succ k1 =>
   have H := HA.out
   clear HA
   simp only [impl_leastTimeWith.l0] at H
   by_cases c3 : (wrap64 ((wrap64 ((wrap64 (2 * x5_1)) + 1)) * a1)) < a0
   ·rw [if_pos c3] at H
    have c3b0 : decide ((wrap64 ((wrap64 ((wrap64 (2 * x5_1)) + 1)) * a1)) < a0) = true := decide_eq_true c3
    clear c3
    have H' := Aside0.mk H
    clear H
    go_wp2
    go_roundg k1
    case measure => have := HK1.out; omega
    case rel => exact ⟨(wrap64 (x5_1 + 1)), (rs), H', ⟨by have := HK1.out; omega⟩, by repeat (first | exact Drawn0.refl _ | apply Drawn0.step)⟩
   ·rw [if_neg c3] at H
    have c3b0 : decide ((wrap64 ((wrap64 ((wrap64 (2 * x5_1)) + 1)) * a1)) < a0) = false := decide_eq_false c3
    clear c3
    obtain rfl := Option.some.inj H
    go_wp2
    go_ret
    exact ⟨rs, by repeat (first | exact Drawn0.refl _ | apply Drawn0.step)⟩

/-! ### slices_Max_int_int: function 15 -/
def slices_Max_int_int.l0 : Nat → List Int → Int → Int → Option (Int)
  | 0, _, _, _ => none
  | k + 1, x0, x3, x4 => if x4 < (x0.length : Int) then (if 0 ≤ x4 then (slices_Max_int_int.l0 k x0 (mx x3 (rd x0 x4)) (wrap64 (x4 + 1))) else (none)) else (some x3)
def slices_Max_int_int.f (k : Nat) (l0 : List Int) : Option (Int) := if (l0.length : Int) < 1 then (none) else (if 0 < (l0.length : Int) then (slices_Max_int_int.l0 k l0 (rd l0 0) 1) else (none))
theorem slices_Max_int_int.mono_l : ∀ k, (∀ y0 y1 y2, LeO (slices_Max_int_int.l0 k y0 y1 y2) (slices_Max_int_int.l0 (k + 1) y0 y1 y2))
  | 0 => fun _ _ _ r h => by simp [slices_Max_int_int.l0] at h
  | k + 1 => by
    have ih0 := slices_Max_int_int.mono_l k
    · intro y0 y1 y2
      unfold slices_Max_int_int.l0
      repeat' first
      | (with_reducible exact ih0 _ _ _)
      | (with_reducible exact LeO.refl _)
      | (with_reducible exact LeO.none _)
      | (with_reducible refine LeO.ite ?_ ?_)
      | (with_reducible refine LeO.bind ?_ (fun _ => ?_))
      | exact ih0 _ _ _
      | exact LeO.none _
      | refine LeO.ite ?_ ?_
      | refine LeO.bind ?_ (fun _ => ?_)
theorem slices_Max_int_int.mono : ∀ a0 k, LeO (slices_Max_int_int.f k a0) (slices_Max_int_int.f (k + 1) a0) := by
  intro a0 k
  have ih0 := slices_Max_int_int.mono_l k
  unfold slices_Max_int_int.f
  repeat' first
      | (with_reducible exact ih0 _ _ _)
      | (with_reducible exact LeO.refl _)
      | (with_reducible exact LeO.none _)
      | (with_reducible refine LeO.ite ?_ ?_)
      | (with_reducible refine LeO.bind ?_ (fun _ => ?_))
      | exact ih0 _ _ _
      | exact LeO.none _
      | refine LeO.ite ?_ ?_
      | refine LeO.bind ?_ (fun _ => ?_)
set_option maxHeartbeats 8000000 in
set_option maxRecDepth 100000 in
theorem slices_Max_int_int.calls (k : Nat) (A0 : Option Addr) (c0 : Nat) (l0 : List Int) (r : Int) (w : World) (hr0 : Kd.C (Kd.int .i64) w A0 l0.length l0) (hc0 : l0.length ≤ c0) (h : slices_Max_int_int.f k l0 = some r) :
  Calls Try.prog 15 #[.slice A0 l0.length c0] w fun e w' => e = .returned (.int .i64 r) ∧ Below w.heap.size w w' := by
 have HR0 := Aside0.mk hr0
 have HC0 := Aside0.mk hc0
 clear hr0 hc0
 have HB := Aside0.mk (Below.refl w.heap.size w)
 unfold slices_Max_int_int.f at h
 have H := h
 clear h
 by_cases c2 : (l0.length : Int) < 1
 ·rw [if_pos c2] at H
  exact absurd H (by simp)
 ·rw [if_neg c2] at H
  have c2b0 : decide ((l0.length : Int) < 1) = false := decide_eq_false c2
  have c2b1 : decide (l0.length < 1) = false := decide_eq_false (by omega)
  clear c2
  by_cases c3 : 0 < (l0.length : Int)
  ·rw [if_pos c3] at H
   have c3b0 : decide (0 < (l0.length : Int)) = true := decide_eq_true c3
   have c3b1 : decide (0 < l0.length) = true := decide_eq_true (by omega)
   clear c3
   have H' := Aside0.mk H
   clear H
   have p137 : 0 ≤ (0 : Int) := (by omega)
   have q137 : 0 < (l0.length : Int) := of_decide_eq_true (by first | (with_reducible assumption) | assumption)
   obtain ⟨ad137, e137, hx137_0⟩ := Kd.at_int HR0.out 0 p137 q137
   cases e137
   have qi137 : (0 < l0.length) = True := eq_true (by omega)
   (try rw [show ((0 : Int)).toNat = 0 from rfl] at hx137_0)
   (try rw [Addr.add_zero'] at hx137_0)
   replace p137 := eq_true p137
   replace q137 := eq_true q137
   go_enter Try.func15, Try.ntmps15
   go_wp2
   go_loopg [3, 4] k (fun kq v3 v4 w' => ∃ (x3_1 : Int) (x4_1 : Int), v3 = .int .i64 x3_1 ∧ v4 = .int .i64 x4_1 ∧ Aside0 (slices_Max_int_int.l0 kq l0 x3_1 x4_1 = some r) ∧ Aside0 (kq ≤ k) ∧ Aside0 (Below w.heap.size w w'))
   case atStart => exact ⟨(rd l0 0), (1), (rs), (rs), H', ⟨Nat.le_refl _⟩, ⟨bw⟩⟩
   case round =>
    clear H'
    try clear c1
    try clear p1
    try clear q1
    try clear hx1
    try clear qi1
    try clear c2
    try clear c2b0
    try clear c2b1
    try clear p2
    try clear c3
    try clear c3b0
    try clear c3b1
    try clear hx137_0
    try clear p137
    try clear q137
    obtain ⟨x3_1, x4_1, rfl, rfl, HA, HK1, HB⟩ := hrel
    cases gk with
    | zero => exact absurd HA.out (by simp [slices_Max_int_int.l0])
    | succ k1 =>
     have H := HA.out
     clear HA
     simp only [slices_Max_int_int.l0] at H
     by_cases c4 : x4_1 < (l0.length : Int)
     ·rw [if_pos c4] at H
      have c4b0 : decide (x4_1 < (l0.length : Int)) = true := decide_eq_true c4
      clear c4
      by_cases c5 : 0 ≤ x4_1
      ·rw [if_pos c5] at H
       have c5b0 : decide (0 ≤ x4_1) = true := decide_eq_true c5
       clear c5
       obtain ⟨ji6, hji6⟩ : ∃ j_ : Int, (mx x3_1 (rd l0 x4_1)) = j_ := ⟨_, rfl⟩
       replace H : (slices_Max_int_int.l0 k1 l0 ji6 (wrap64 (x4_1 + 1))) = some r := by first | (rw [hji6] at H; exact H) | (simp only [hji6] at H ⊢; exact H)
       have hji6_ : (if x3_1 < (rd l0 x4_1) then (rd l0 x4_1) else x3_1) = ji6 := hji6
       have H' := Aside0.mk H
       clear H
       have p138 : 0 ≤ (x4_1 : Int) := of_decide_eq_true (by first | (with_reducible assumption) | assumption)
       have q138 : x4_1 < (l0.length : Int) := of_decide_eq_true (by first | (with_reducible assumption) | assumption)
       obtain ⟨ad138, e138, hx138_0⟩ := Kd.at_int HR0.out x4_1 p138 q138
       obtain rfl : ad137 = ad138 := (by injection e138)
       replace hx138_0 := (HB.out.cell (World.block_lt_of_cell? w _ hx138_0)).trans hx138_0
       replace p138 := eq_true p138
       replace q138 := eq_true q138
       go_wp2
       go_roundg k1
       case measure => have := HK1.out; omega
       case rel => exact ⟨(ji6), (wrap64 (x4_1 + 1)), (by first | rfl | (simp; done) | (simp only [← hji6] <;> (first | rfl | simp)) | (simp [*]; done)), (rs), H', ⟨by have := HK1.out; omega⟩, ⟨bw⟩⟩
      ·rw [if_neg c5] at H
       exact absurd H (by simp)
     ·rw [if_neg c4] at H
      have c4b0 : decide (x4_1 < (l0.length : Int)) = false := decide_eq_false c4
      clear c4
      obtain rfl := Option.some.inj H
      go_wp2
      go_ret
      exact ⟨rs, bw⟩
  ·rw [if_neg c3] at H
   exact absurd H (by simp)

/-! ### impl_away: function 20 -/
def impl_away.f (a0 : Int) (a1 : Int) : Option (Int) := some (mx (wrap64 (a0 - a1)) (wrap64 (a1 - a0)))
set_option maxHeartbeats 8000000 in
set_option maxRecDepth 100000 in
theorem impl_away.calls (a0 : Int) (a1 : Int) (r : Int) (w : World) (h : impl_away.f a0 a1 = some r) :
  Calls Try.prog 20 #[.int .i64 a0, .int .i64 a1] w fun e w' => e = .returned (.int .i64 r) ∧ Below w.heap.size w w' := by
 have HB := Aside0.mk (Below.refl w.heap.size w)
 unfold impl_away.f at h
 have H := h
 clear h
 obtain ⟨ji3, hji3⟩ : ∃ j_ : Int, (mx (wrap64 (a0 - a1)) (wrap64 (a1 - a0))) = j_ := ⟨_, rfl⟩
 replace H : (some ji3) = some r := by first | (rw [hji3] at H; exact H) | (simp only [hji3] at H ⊢; exact H)
 have hji3_ : (if (wrap64 (a0 - a1)) < (wrap64 (a1 - a0)) then (wrap64 (a1 - a0)) else (wrap64 (a0 - a1))) = ji3 := hji3
 obtain rfl := Option.some.inj H
 go_enter Try.func20, Try.ntmps20
 go_wp2
 go_ret
 exact ⟨by first | rfl | (simp [errW_none, errW_some] <;> rfl) | (simp only [← hji3]; first | rfl | (simp [errW_none, errW_some] <;> rfl)) | (simp [*, errW_none, errW_some] <;> rfl), bw⟩

/-! ### impl_spread: function 16 -/
mutual
def impl_spread.l0 : Nat → Int → List Int → List Int → Int → Int → Option (List Int)
  | 0, _, _, _, _, _ => none
  | k + 1, x0, x1, x5, x11, x12 => if x12 < x11 then (impl_spread.l1 k x0 x1 x5 x12 x0 x11 x12 x1 (x1.length : Int) 0) else (some x5)
def impl_spread.l1 : Nat → Int → List Int → List Int → Int → Int → Int → Int → List Int → Int → Int → Option (List Int)
  | 0, _, _, _, _, _, _, _, _, _, _ => none
  | k + 1, x0, x1, x5, x6, x7, x11, x12, x16, x17, x18 => if x18 < x17 then (if 0 ≤ x18 then (if x18 < (x16.length : Int) then ((impl_away.f x6 (rd x16 x18)).bind fun t143 => (impl_spread.l1 k x0 x1 x5 x6 (mn x7 t143) x11 x12 x16 x17 (wrap64 (x18 + 1)))) else (none)) else (none)) else (if x5.length < 17592186044416 then (impl_spread.l0 k x0 x1 (x5 ++ [x7]) x11 (wrap64 (x12 + 1))) else (none))
end
def impl_spread.f (k : Nat) (a0 : Int) (l1 : List Int) : Option (List Int) := impl_spread.l0 k a0 l1 (([] : List Int)) a0 0
theorem impl_spread.mono_l : ∀ k, (∀ y0 y1 y2 y3 y4, LeO (impl_spread.l0 k y0 y1 y2 y3 y4) (impl_spread.l0 (k + 1) y0 y1 y2 y3 y4)) ∧ (∀ y0 y1 y2 y3 y4 y5 y6 y7 y8 y9, LeO (impl_spread.l1 k y0 y1 y2 y3 y4 y5 y6 y7 y8 y9) (impl_spread.l1 (k + 1) y0 y1 y2 y3 y4 y5 y6 y7 y8 y9))
  | 0 => ⟨fun _ _ _ _ _ r h => by simp [impl_spread.l0] at h, fun _ _ _ _ _ _ _ _ _ _ r h => by simp [impl_spread.l1] at h⟩
  | k + 1 => by
    obtain ⟨ih0, ih1⟩ := impl_spread.mono_l k
    refine ⟨?_, ?_⟩
    · intro y0 y1 y2 y3 y4
      unfold impl_spread.l0
      repeat' first
      | (with_reducible exact ih0 _ _ _ _ _)
      | (with_reducible exact ih1 _ _ _ _ _ _ _ _ _ _)
      | (with_reducible exact LeO.refl _)
      | (with_reducible exact LeO.none _)
      | (with_reducible refine LeO.ite ?_ ?_)
      | (with_reducible refine LeO.bind ?_ (fun _ => ?_))
      | exact ih0 _ _ _ _ _
      | exact ih1 _ _ _ _ _ _ _ _ _ _
      | exact LeO.none _
      | refine LeO.ite ?_ ?_
      | refine LeO.bind ?_ (fun _ => ?_)
    · intro y0 y1 y2 y3 y4 y5 y6 y7 y8 y9
      unfold impl_spread.l1
      repeat' first
      | (with_reducible exact ih0 _ _ _ _ _)
      | (with_reducible exact ih1 _ _ _ _ _ _ _ _ _ _)
      | (with_reducible exact LeO.refl _)
      | (with_reducible exact LeO.none _)
      | (with_reducible refine LeO.ite ?_ ?_)
      | (with_reducible refine LeO.bind ?_ (fun _ => ?_))
      | exact ih0 _ _ _ _ _
      | exact ih1 _ _ _ _ _ _ _ _ _ _
      | exact LeO.none _
      | refine LeO.ite ?_ ?_
      | refine LeO.bind ?_ (fun _ => ?_)
theorem impl_spread.mono : ∀ a0 a1 k, LeO (impl_spread.f k a0 a1) (impl_spread.f (k + 1) a0 a1) := by
  intro a0 a1 k
  obtain ⟨ih0, ih1⟩ := impl_spread.mono_l k
  unfold impl_spread.f
  repeat' first
      | (with_reducible exact ih0 _ _ _ _ _)
      | (with_reducible exact ih1 _ _ _ _ _ _ _ _ _ _)
      | (with_reducible exact LeO.refl _)
      | (with_reducible exact LeO.none _)
      | (with_reducible refine LeO.ite ?_ ?_)
      | (with_reducible refine LeO.bind ?_ (fun _ => ?_))
      | exact ih0 _ _ _ _ _
      | exact ih1 _ _ _ _ _ _ _ _ _ _
      | exact LeO.none _
      | refine LeO.ite ?_ ?_
      | refine LeO.bind ?_ (fun _ => ?_)
set_option maxHeartbeats 8000000 in
set_option maxRecDepth 100000 in
theorem impl_spread.calls (k : Nat) (a0 : Int) (A1 : Option Addr) (c1 : Nat) (l1 : List Int) (r : List Int) (w : World) (hr1 : Kd.C (Kd.int .i64) w A1 l1.length l1) (hc1 : l1.length ≤ c1) (h : impl_spread.f k a0 l1 = some r) :
  Calls Try.prog 16 #[.int .i64 a0, .slice A1 l1.length c1] w fun e w' => ∃ v0_ : Value, e = .returned (v0_) ∧ Kd.R (Kd.int .i64) 3 w' w.heap.size (fun _ => True) v0_ r ∧ Below w.heap.size w w' := by
 have HR1 := Aside0.mk hr1
 have HC1 := Aside0.mk hc1
 clear hr1 hc1
 have HB := Aside0.mk (Below.refl w.heap.size w)
 unfold impl_spread.f at h
 have H := h
 clear h
 obtain ⟨y139, hy139⟩ : ∃ y_ : List Int, y_ = (([] : List Int)) := ⟨_, rfl⟩
 replace H : (impl_spread.l0 k a0 l1 y139 a0 0) = some r := by first | (rw [hy139]; with_reducible exact H) | (have H2_ := (Option.bind_some _ _).symm.trans H; rw [hy139]; with_reducible exact H2_) | (have H2_ := (Option.bind_some _ _).symm.trans H; with_reducible exact H2_) | with_reducible exact H | (rw [hy139]; exact H) | exact H
 have Ny139 := Aside0.mk hy139
 clear hy139
 have H' := Aside0.mk H
 clear H
 go_enter Try.func16, Try.ntmps16
 go_wp2_with (first | ((with_reducible refine gate_dst (N := 10) rfl ?_); refine Kd.R_lit (Kd.int .i64) _ 3 ?hg (N := 10) ?hd (xs := ([] : List Int)) (inner := []) (ok := fun _ => True) (okp := fun _ => True) ?hr ?hp (fun _ hk => hk) trivial (Below.refl _ _) (Nat.le_refl _) (by simp) ?_; (case hd => rfl); (case hg => rfl); (case hr => first | (go_simp; done) | (go_simp; rfl)); (case hp => exact (Reps.none _ _)); intro v140 w3 ho4 hb hg_ hnew_; clear hg_ hnew_; (first | rw [← Ny139.out] at ho4 | (simp only [Int.reduceToNat] at ho4; rw [← Ny139.out] at ho4)); have HO141 := Aside0.mk (Kd.R_lower ho4 (below_size bw)); replace HB := bs hb; clear hb ho4))
 go_loopg [5, 12] k (fun kq v5 v12 w' => ∃ (x5_1 : List Int) (x12_1 : Int), v12 = .int .i64 x12_1 ∧ Aside0 (impl_spread.l0 kq a0 l1 x5_1 a0 x12_1 = some r) ∧ Aside0 (kq ≤ k) ∧ Aside0 (Kd.R (Kd.int .i64) 3 w' w.heap.size (fun _ => True) v5 x5_1) ∧ Aside0 (Below w.heap.size w w'))
 case atStart => exact ⟨(y139), (0), (rs), H', ⟨Nat.le_refl _⟩, ⟨pr HO141⟩, ⟨bw⟩⟩
 case round =>
  clear H'
  try clear c1
  try clear p2
  obtain ⟨x5_1, x12_1, rfl, HA, HK1, HO_5, HB⟩ := hrel
  cases gk with
  | zero => exact absurd HA.out (by simp [impl_spread.l0])
  | succ k1 =>
   have H := HA.out
   clear HA
   simp only [impl_spread.l0] at H
   by_cases c5 : x12_1 < a0
   ·rw [if_pos c5] at H
    have c5b0 : decide (x12_1 < a0) = true := decide_eq_true c5
    clear c5
    have H' := Aside0.mk H
    clear H
    go_wp2
    go_loopg [7, 18] k1 (fun kq v7 v18 w' => ∃ (x7_2 : Int) (x18_2 : Int), v7 = .int .i64 x7_2 ∧ v18 = .int .i64 x18_2 ∧ Aside0 (impl_spread.l1 kq a0 l1 x5_1 x12_1 x7_2 a0 x12_1 l1 (l1.length : Int) x18_2 = some r) ∧ Aside0 (kq ≤ k1) ∧ Aside0 (Kd.R (Kd.int .i64) 3 w' w.heap.size (fun _ => True) u5 x5_1) ∧ Aside0 (Below w.heap.size w w'))
    case atStart => exact ⟨(a0), (0), (rs), (rs), H', ⟨Nat.le_refl _⟩, ⟨pr HO_5⟩, ⟨bw⟩⟩
    case round =>
     clear H'
     try clear c1
     try clear p2
     try clear c5
     try clear c5b0
     try clear p2
     obtain ⟨x7_2, x18_2, rfl, rfl, HA, HK2, HO_5, HB⟩ := hrel
     cases gk with
     | zero => exact absurd HA.out (by simp [impl_spread.l1])
     | succ k2 =>
      have H := HA.out
      clear HA
      simp only [impl_spread.l1] at H
      by_cases c6 : x18_2 < (l1.length : Int)
      ·rw [if_pos c6] at H
       have c6b0 : decide (x18_2 < (l1.length : Int)) = true := decide_eq_true c6
       clear c6
       by_cases c7 : 0 ≤ x18_2
       ·rw [if_pos c7] at H
        have c7b0 : decide (0 ≤ x18_2) = true := decide_eq_true c7
        clear c7
        by_cases c8 : x18_2 < (l1.length : Int)
        ·rw [if_pos c8] at H
         have c8b0 : decide (x18_2 < (l1.length : Int)) = true := decide_eq_true c8
         clear c8
         replace H := Option.bind_eq_some_iff.mp H
         obtain ⟨t143, A90, H⟩ := H
         (try dsimp only at H)
         have A9 := Aside0.mk A90
         clear A90
         obtain ⟨ji10, hji10⟩ : ∃ j_ : Int, (mn x7_2 t143) = j_ := ⟨_, rfl⟩
         replace H : (impl_spread.l1 k2 a0 l1 x5_1 x12_1 ji10 a0 x12_1 l1 (l1.length : Int) (wrap64 (x18_2 + 1))) = some r := by first | (rw [hji10] at H; exact H) | (simp only [hji10] at H ⊢; exact H)
         (try rw [hji10] at A9)
         have hji10_ : (if t143 < x7_2 then t143 else x7_2) = ji10 := hji10
         have H' := Aside0.mk H
         clear H
         have p142 : 0 ≤ (x18_2 : Int) := of_decide_eq_true (by first | (with_reducible assumption) | assumption)
         have q142 : x18_2 < (l1.length : Int) := of_decide_eq_true (by first | (with_reducible assumption) | assumption)
         obtain ⟨ad142, e142, hx142_0⟩ := Kd.at_int HR1.out x18_2 p142 q142
         cases e142
         replace hx142_0 := (HB.out.cell (World.block_lt_of_cell? w _ hx142_0)).trans hx142_0
         replace p142 := eq_true p142
         replace q142 := eq_true q142
         go_wp2_with (first | ((with_reducible refine gate_callee (f := 20) rfl ?_); refine gl (some 25) Try.func20 #[.int .i64 x12_1, .int .i64 (rd l1 x18_2)] ?_; (with_reducible refine (impl_away.calls x12_1 (rd l1 x18_2) t143 _ A9.out).mono ?_); rintro e w11 ⟨rfl, hb⟩; refine ⟨_, rfl, ?_⟩; replace HO_5 := Aside0.mk (Kd.R_below (pr HO_5) hb); replace HB := bs hb; (try clear hb)))
         go_roundg k2
         case measure => have := HK1.out; have := HK2.out; omega
         case rel => exact ⟨(ji10), (wrap64 (x18_2 + 1)), (by first | rfl | (simp; done) | (simp only [← hji10] <;> (first | rfl | simp)) | (simp [*]; done)), (rs), H', ⟨by have := HK1.out; have := HK2.out; omega⟩, ⟨pr HO_5⟩, ⟨bw⟩⟩
        ·rw [if_neg c8] at H
         exact absurd H (by simp)
       ·rw [if_neg c7] at H
        exact absurd H (by simp)
      ·rw [if_neg c6] at H
       have c6b0 : decide (x18_2 < (l1.length : Int)) = false := decide_eq_false c6
       clear c6
       by_cases c12 : x5_1.length < 17592186044416
       ·rw [if_pos c12] at H
        have LMc12 := Aside0.mk c12
        clear c12
        obtain ⟨y144, hy144⟩ : ∃ y_ : List Int, y_ = (x5_1 ++ [x7_2]) := ⟨_, rfl⟩
        replace H : (impl_spread.l0 k2 a0 l1 y144 a0 (wrap64 (x12_1 + 1))) = some r := by first | (rw [hy144]; with_reducible exact H) | (have H2_ := (Option.bind_some _ _).symm.trans H; rw [hy144]; with_reducible exact H2_) | (have H2_ := (Option.bind_some _ _).symm.trans H; with_reducible exact H2_) | with_reducible exact H | (rw [hy144]; exact H) | exact H
        have Ny144 := Aside0.mk hy144
        clear hy144
        have H' := Aside0.mk H
        clear H
        go_wp2_with (first | ((with_reducible refine gate_builtin (b := .append) (xs := #[.tmp 28, .tmp 30]) rfl ?_); at_builtin; refine Kd.R_append (Kd.int .i64) (w0 := w) w.heap.size rfl (.tmp 28) (.tmp 30) 22 3 (.int .i64 0) 8 rfl Try.underlying22 info3 rfl (by decide) (by omega) u5 x5_1 x7_2 [.int .i64 x7_2] (fun _ => True) (fun _ => False) rfl rfl ?aP (fun _ hk => hk.elim) ?aF ?aO ?aB ?aS ?aL ?_; (case aP => exact rfl); (case aB => exact bw); (case aF => exact (fun _ _ => trivial)); (case aO => exact (pr HO_5)); (case aS => exact (below_size bw)); (case aL => have := LMc12.out; omega); intro v145 w13 ho hb hg hat; rw [← Ny144.out] at ho; have n0_ := Aside0.mk (hb); have n1_ := Aside0.mk (ho); clear HB; clear HO_5; have HB := n0_; have HO146 := n1_; clear n0_ n1_; clear ho hb hg hat))
        go_roundg k2
        case measure => have := HK1.out; have := HK2.out; omega
        case rel => exact ⟨(y144), (wrap64 (x12_1 + 1)), (rs), H', ⟨by have := HK1.out; have := HK2.out; omega⟩, ⟨pr HO146⟩, ⟨bw⟩⟩
       ·rw [if_neg c12] at H
        exact absurd H (by simp)
   ·rw [if_neg c5] at H
    have c5b0 : decide (x12_1 < a0) = false := decide_eq_false c5
    clear c5
    obtain rfl := Option.some.inj H
    go_wp2
    go_ret
    exact ⟨_, rs, pr HO_5, bw⟩

/-! ### slices_Clone_int_int: function 17 -/
def slices_Clone_int_int.f (l0 : List (Int)) : Option (List (Int)) := if l0.length < 17592186044416 then (some l0) else none
set_option maxHeartbeats 8000000 in
set_option maxRecDepth 100000 in
theorem slices_Clone_int_int.calls (A0 : Option Addr) (c0 : Nat) (l0 : List (Int)) (r : List (Int)) (w : World) (hr0 : Kd.C (Kd.int .i64) w A0 l0.length l0) (hc0 : l0.length ≤ c0) (h : slices_Clone_int_int.f l0 = some r) :
  Calls Try.prog 17 #[.slice A0 l0.length c0] w fun e w' => ∃ v0_ : Value, e = .returned (v0_) ∧ Kd.R (Kd.int .i64) 3 w' w.heap.size (fun _ => True) v0_ r ∧ Below w.heap.size w w' := by
 have HR0 := Aside0.mk hr0
 have HC0 := Aside0.mk hc0
 clear hr0 hc0
 have HB := Aside0.mk (Below.refl w.heap.size w)
 unfold slices_Clone_int_int.f at h
 by_cases c2 : l0.length < 17592186044416
 ·rw [if_pos c2] at h
  have LMc2 := Aside0.mk c2
  clear c2
  obtain rfl := Option.some.inj h
  clear h
  have qnil : ∀ (w : World) (a : Option Addr) (n c n' c' : Nat), (binOp .eql 22 (.slice a n c) (.slice none n' c')).run Try.prog w = .ok (.bool a.isNone) w := fun w a n c n' c' => Lib.run_eql_slice_nil w _ _ a n c n' c' Try.underlying22
  cases A0 with
  | none =>
   obtain rfl : l0 = [] := by
    rcases l0 with _ | ⟨x, l0⟩
    ·rfl
    ·obtain ⟨ad, he, _⟩ := HR0.out.2.2 (by simp)
     cases he
   go_enter Try.func17, Try.ntmps17
   go_wp2
   go_ret
   exact ⟨_, rfl, Kd.R_nil _ _ _ _ _, by repeat (first | exact HB.out | apply pw_below_drewN)⟩
  | some ad0 =>
   obtain ⟨y172, hy172⟩ : ∃ y_ : List (Int), y_ = ([] : List (Int)) := ⟨_, rfl⟩
   have Ny172 := Aside0.mk hy172
   obtain ⟨y175, hy175⟩ : ∃ y_ : List (Int), y_ = y172 ++ l0 := ⟨_, rfl⟩
   have Ny175 := Aside0.mk hy175
   have E175 := Aside0.mk (show y175 = l0 by rw [hy175, hy172]; rfl)
   have LM := Aside0.mk (show y172.length + l0.length < 17592186044416 by rw [hy172]; simpa using LMc2.out)
   clear hy172 hy175
   go_enter Try.func17, Try.ntmps17
   go_wp2_with (first | ((with_reducible refine gate_dst (N := 5) rfl ?_); refine Kd.R_lit (Kd.int .i64) _ 3 ?hg (N := 5) ?hd (xs := ([] : List (Int))) (inner := []) (ok := fun _ => True) (okp := fun _ => True) ?hr ?hp (fun _ hk => hk) trivial (Below.refl _ _) (Nat.le_refl _) (by simp) ?_; (case hd => rfl); (case hg => rfl); (case hr => first | (go_simp; done) | (go_simp; rfl)); (case hp => exact (Reps.none _ _)); intro v173 w3 ho4 hb hg_ hnew_; clear hg_ hnew_; rw [← Ny172.out] at ho4; have HO174 := Aside0.mk (Kd.R_lower ho4 (below_size HB.out)); have n0_ := Aside0.mk (below_step HB.out hb); clear HB; have HB := n0_; clear n0_ hb ho4) | ((with_reducible refine gate_builtin (b := .append) (xs := #[.tmp 5, .tmp 6]) rfl ?_); at_builtin; refine Kd.R_append_rows (Kd.int .i64) (w0 := w) w.heap.size rfl (.tmp 5) (.tmp 6) 22 3 (.int .i64 0) 8 rfl Try.underlying22 info3 rfl (by decide) (by omega) v173 y172 l0 _ _ _ (fun _ => True) (fun _ => False) rfl rfl ?aO ?aR (fun _ _ h => h) (fun _ h => h.elim) ?aF ?aB ?aS ?aL ?_; (case aR => repeat (first | exact (Kd.C_below HR0.out HB.out) | (with_reducible refine Kd.C_alloc ?_ _) | (with_reducible refine Kd.C_drewN ?_ _) | (with_reducible refine Kd.C_drew ?_))); (case aB => repeat (first | exact HB.out | apply pw_below_drewN | apply below_alloc)); (case aF => exact (fun _ _ => trivial)); (case aO => (with_reducible repeat (first | apply Kd.R_alloc | apply Kd.R_drewN | apply Kd.R_drew)); exact HO174.out); (case aS => exact (below_size (by repeat (first | exact HB.out | apply pw_below_drewN | apply below_alloc)))); (case aL => have := LM.out; omega); intro v176 w5 ho hb hg hat; rw [← Ny175.out] at ho; have n0_ := Aside0.mk hb; have HO177 := Aside0.mk ho; clear HB HO174; have HB := n0_; clear n0_ ho hb hg hat))
   go_ret
   exact ⟨_, rfl, by (with_reducible repeat (first | apply Kd.R_alloc | apply Kd.R_drewN | apply Kd.R_drew)); exact E175.out ▸ HO177.out, by repeat (first | exact HB.out | apply pw_below_drewN)⟩
 ·rw [if_neg c2] at h
  exact absurd h (by simp)

-- NOT PRINTED: function 14 (impl_BestStarts_1)

/-! ### impl_BestStarts: function 5 -/
mutual
def impl_BestStarts_find.l : Nat → Int → Int → Int → List Int → Int → Option (Option (List Int))
  | 0, _, _, _, _, _ => none
  | k + 1, s, m, due, l, x => if x ≤ wrap64 (s - wrap64 (m - (l.length : Int))) then (if l.length < 4398046511104 then ((impl_BestStarts_find.f k s m due (l ++ [x]) (wrap64 (x + 1))).bind fun o => (if o.isSome = true then some o else impl_BestStarts_find.l k s m due l (wrap64 (x + 1)))) else none) else some none
def impl_BestStarts_find.f : Nat → Int → Int → Int → List Int → Int → Option (Option (List Int))
  | 0, _, _, _, _, _ => none
  | k + 1, s, m, due, l, x => if (l.length : Int) = m then ((impl_spread.f k s l).bind fun sp => ((slices_Max_int_int.f k sp).bind fun t => if t = due then some (some l) else some none)) else impl_BestStarts_find.l k s m due l x
end
def impl_BestStarts_res (w : World) (base : Nat) (v : Value) : Option (List Int) → Prop
  | none => v = .slice none 0 0
  | some r => (∃ ad n c, v = .slice (some ad) n c) ∧ Kd.R (Kd.int .i64) 3 w base (fun _ => True) v r
theorem impl_BestStarts_find.mono_l : ∀ k, (∀ s m due l x, LeO (impl_BestStarts_find.l k s m due l x) (impl_BestStarts_find.l (k + 1) s m due l x)) ∧ (∀ s m due l x, LeO (impl_BestStarts_find.f k s m due l x) (impl_BestStarts_find.f (k + 1) s m due l x))
  | 0 => ⟨fun _ _ _ _ _ r h => by simp [impl_BestStarts_find.l] at h, fun _ _ _ _ _ r h => by simp [impl_BestStarts_find.f] at h⟩
  | k + 1 => by
    obtain ⟨ih0, ih1⟩ := impl_BestStarts_find.mono_l k
    constructor
    · intro s m due l x
      rw [impl_BestStarts_find.l, impl_BestStarts_find.l]
      exact LeO.ite (LeO.ite (LeO.bind (ih1 _ _ _ _ _) (fun _ => LeO.ite (LeO.refl _) (ih0 _ _ _ _ _))) (LeO.refl _)) (LeO.refl _)
    · intro s m due l x
      rw [impl_BestStarts_find.f, impl_BestStarts_find.f]
      exact LeO.ite (LeO.bind (impl_spread.mono _ _ _) (fun _ => LeO.bind (slices_Max_int_int.mono _ _) (fun _ => LeO.refl _))) (ih0 _ _ _ _ _)
def impl_BestStarts.f (k : Nat) (a0 : Int) (a1 : Int) : Option (List Int × Bool) := (impl_in.f a0 1 16).bind fun t1 => (if t1 = true then ((impl_in.f a1 1 a0).bind fun t2 => (if t2 = true then ((impl_leastTimeWith.f k a0 a1).bind fun due => ((impl_BestStarts_find.f k a0 a1 due [] 0).bind fun o => some (o.getD [], o.isSome))) else some ([], false))) else some ([], false))
theorem impl_BestStarts.mono : ∀ a0 a1 k, LeO (impl_BestStarts.f k a0 a1) (impl_BestStarts.f (k + 1) a0 a1) := by
  intro a0 a1 k
  unfold impl_BestStarts.f
  exact LeO.bind (LeO.refl _) (fun _ => LeO.ite (LeO.bind (LeO.refl _) (fun _ => LeO.ite (LeO.bind (impl_leastTimeWith.mono _ _ _) (fun _ => LeO.bind ((impl_BestStarts_find.mono_l k).2 _ _ _ _ _) (fun _ => LeO.refl _))) (LeO.refl _))) (LeO.refl _))
theorem impl_BestStarts_nonnil {w : World} {base : Nat} {ok : Nat → Prop} {v : Value} {l : List Int} (h : Kd.R (Kd.int .i64) 3 w base ok v l) (hl : 0 < l.length) : ∃ ad n c, v = .slice (some ad) n c := by
  obtain ⟨A, c, rfl, _, hr⟩ := Kd.R_reads h
  obtain ⟨ad, e, _⟩ := Kd.at_int hr 0 (by omega) (by omega)
  exact ⟨ad, _, _, by rw [e]⟩
theorem impl_BestStarts_ne (W : World) (a : Option Addr) (n c n' c' : Nat) : (binOp .neq 22 (.slice a n c) (.slice none n' c')).run Try.prog W = .ok (.bool a.isSome) W := by
  have := Lib.run_equalIn_slice_nil (P := Try.prog) W 9999 22 _ a n c n' c' Try.underlying22
  simp only [binOp]
  simp [Op.equal, Op.maxDepth, this]
theorem impl_BestStarts_lit (W : World) (x : Int) : Kd.C (Kd.int .i64) (W.alloc (.cells #[.int .i64 x] 3)) (some ⟨W.heap.size, 0, none⟩) 1 [x] := by
  have h := own_lit W 0 3 .i64 [x] (Nat.zero_le _) (by simp)
  have hr : Kd.R (Kd.int .i64) 3 (W.alloc (.cells #[.int .i64 x] 3)) 0 (fun _ => True) (.slice (some ⟨W.heap.size, 0, none⟩) 1 1) [x] :=
    ⟨fun _ _ => trivial, [.int .i64 x], h, by simp [Kd.int, Kd.scalar], fun j p hj => by
      cases j with
      | zero => simp at hj; simp [Kd.int, Kd.scalar, hj]
      | succ j => simp at hj⟩
  obtain ⟨A, c, e, _, hc⟩ := Kd.R_reads hr
  injection e with e1 e2 e3
  rw [← e1] at hc
  exact hc
set_option maxHeartbeats 8000000 in
set_option maxRecDepth 100000 in
theorem impl_BestStarts_find.calls (k : Nat) : ∀ (s m due : Int) (gm gs gd gf base : Nat) (v : Value) (l : List Int) (x : Int) (r : Option (List Int)) (w : World) (hm : 1 ≤ m) (hgm : w.cell? ⟨gm, 0, none⟩ = some (.int .i64 m)) (hgs : w.cell? ⟨gs, 0, none⟩ = some (.int .i64 s)) (hgd : w.cell? ⟨gd, 0, none⟩ = some (.int .i64 due))
  (hgf : w.cell? ⟨gf, 0, none⟩ = some (.func (.func 14) #[] #[.pointer (some ⟨gm, 0, none⟩), .pointer (some ⟨gs, 0, none⟩), .pointer (some ⟨gd, 0, none⟩), .pointer (some ⟨gf, 0, none⟩)])) (hbase : base ≤ w.heap.size) (ho : Kd.R (Kd.int .i64) 3 w base (fun _ => True) v l) (h : impl_BestStarts_find.f k s m due l x = some r),
  Calls Try.prog 14 #[v, .int .i64 x, .pointer (some ⟨gm, 0, none⟩), .pointer (some ⟨gs, 0, none⟩), .pointer (some ⟨gd, 0, none⟩), .pointer (some ⟨gf, 0, none⟩)] w fun e w' => ∃ v0, e = .returned v0 ∧ impl_BestStarts_res w' base v0 r ∧ Below w.heap.size w w' := by
 induction k using Nat.strongRecOn with
 | _ k ih =>
 intro s m due gm gs gd gf base v l x r w hm hgm hgs hgd hgf hbase ho h
 cases k with
 | zero => exact absurd h (by simp [impl_BestStarts_find.f])
 | succ k =>
 rw [impl_BestStarts_find.f] at h
 obtain ⟨A, c, rfl, hlc, hrd⟩ := Kd.R_reads ho
 have HO := Aside0.mk ho
 have HRD := Aside0.mk hrd
 have HLC := Aside0.mk hlc
 have HM := Aside0.mk hm
 have HBS := Aside0.mk hbase
 have HGM := Aside0.mk hgm
 have HGS := Aside0.mk hgs
 have HGD := Aside0.mk hgd
 have HGF := Aside0.mk hgf
 have HB := Aside0.mk (Below.refl w.heap.size w)
 clear ho hrd hlc hm hbase
 have IH := Aside0.mk ih
 clear ih
 have mixed : Try.prog.follows Departure.mixedOrders = true := by kernel_rfl
 by_cases c1 : (l.length : Int) = m
 ·rw [if_pos c1] at h
  have c1b0 : ((l.length : Int) == m) = true := beq_iff_eq.mpr c1
  replace h := Option.bind_eq_some_iff.mp h
  obtain ⟨sp, a1, h⟩ := h
  replace h := Option.bind_eq_some_iff.mp h
  obtain ⟨t, a2, h⟩ := h
  have A1 := Aside0.mk a1
  have A2 := Aside0.mk a2
  clear a1 a2
  have hlen := Aside0.mk (show 0 < l.length by have := HM.out; omega)
  clear c1
  by_cases c2 : t = due
  ·rw [if_pos c2] at h
   subst c2
   obtain rfl := Option.some.inj h
   clear h
   go_enter Try.func14, Try.ntmps14
   go_wp2_with (fail)
   go_region_held3 (fun w' => w'.cell? ⟨gs, 0, none⟩ = some (.int .i64 s) ∧ w'.cell? ⟨gd, 0, none⟩ = some (.int .i64 t)) (go_keep) (first | (go_at_call 16; refine (impl_spread.calls k s A c l sp _ ?s1 ?s2 A1.out).mono ?_; (case s1 => exact Kd.C_below HRD.out (below_drew HB.out)); (case s2 => exact HLC.out); rintro e w' ⟨v1, rfl, ho1, hb⟩; obtain ⟨Ap, cp, rfl, hlp, hrp⟩ := Kd.R_reads ho1; have HRP := Aside0.mk hrp; have HLP := Aside0.mk hlp; have HB1 := Aside0.mk (below_step (below_drew HB.out) hb); clear hb ho1 hrp hlp HB; have HB := HB1; clear HB1; have e1 := (HB.out.cell (World.block_lt_of_cell? _ _ HGS.out)).trans HGS.out; have e2 := (HB.out.cell (World.block_lt_of_cell? _ _ HGD.out)).trans HGD.out) | (go_at_call 15; refine (slices_Max_int_int.calls k Ap cp sp t _ ?s1 ?s2 A2.out).mono ?_; (case s1 => exact HRP.out); (case s2 => exact HLP.out); rintro e w' ⟨rfl, hb⟩; have HB1 := Aside0.mk (below_step HB.out hb); clear hb HB e1 e2; have HB := HB1; clear HB1; have e1 := (HB.out.cell (World.block_lt_of_cell? _ _ HGS.out)).trans HGS.out; have e2 := (HB.out.cell (World.block_lt_of_cell? _ _ HGD.out)).trans HGD.out))
   go_wp2
   go_ret
   exact ⟨_, rfl, ⟨impl_BestStarts_nonnil HO.out hlen.out, Kd.R_below HO.out HB.out⟩, HB.out⟩
  ·rw [if_neg c2] at h
   have c2b0 : (t == due) = false := beq_eq_false_iff_ne.mpr c2
   clear c2
   obtain rfl := Option.some.inj h
   clear h
   go_enter Try.func14, Try.ntmps14
   go_wp2_with (fail)
   go_region_held3 (fun w' => w'.cell? ⟨gs, 0, none⟩ = some (.int .i64 s) ∧ w'.cell? ⟨gd, 0, none⟩ = some (.int .i64 due)) (go_keep) (first | (go_at_call 16; refine (impl_spread.calls k s A c l sp _ ?s1 ?s2 A1.out).mono ?_; (case s1 => exact Kd.C_below HRD.out (below_drew HB.out)); (case s2 => exact HLC.out); rintro e w' ⟨v1, rfl, ho1, hb⟩; obtain ⟨Ap, cp, rfl, hlp, hrp⟩ := Kd.R_reads ho1; have HRP := Aside0.mk hrp; have HLP := Aside0.mk hlp; have HB1 := Aside0.mk (below_step (below_drew HB.out) hb); clear hb ho1 hrp hlp HB; have HB := HB1; clear HB1; have e1 := (HB.out.cell (World.block_lt_of_cell? _ _ HGS.out)).trans HGS.out; have e2 := (HB.out.cell (World.block_lt_of_cell? _ _ HGD.out)).trans HGD.out) | (go_at_call 15; refine (slices_Max_int_int.calls k Ap cp sp t _ ?s1 ?s2 A2.out).mono ?_; (case s1 => exact HRP.out); (case s2 => exact HLP.out); rintro e w' ⟨rfl, hb⟩; have HB1 := Aside0.mk (below_step HB.out hb); clear hb HB e1 e2; have HB := HB1; clear HB1; have e1 := (HB.out.cell (World.block_lt_of_cell? _ _ HGS.out)).trans HGS.out; have e2 := (HB.out.cell (World.block_lt_of_cell? _ _ HGD.out)).trans HGD.out))
   go_wp2
   go_ret
   exact ⟨_, rfl, rfl, HB.out⟩
 ·rw [if_neg c1] at h
  have c1b0 : ((l.length : Int) == m) = false := beq_eq_false_iff_ne.mpr c1
  clear c1
  have H' := Aside0.mk h
  clear h
  go_enter Try.func14, Try.ntmps14
  go_wp2
  go_loopg [9] k (fun kq v9 w' => ∃ (x9 : Int), v9 = .int .i64 x9 ∧ Aside0 (impl_BestStarts_find.l kq s m due l x9 = some r) ∧ Aside0 (kq ≤ k) ∧ Aside0 (Below w.heap.size w w'))
  case atStart => exact ⟨x, rfl, H', ⟨Nat.le_refl _⟩, HB⟩
  case round =>
   clear H' HB
   obtain ⟨x9, rfl, HA, HK1, HB⟩ := hrel
   have hgm' := (HB.out.cell (World.block_lt_of_cell? _ _ HGM.out)).trans HGM.out
   have hgs' := (HB.out.cell (World.block_lt_of_cell? _ _ HGS.out)).trans HGS.out
   have hgf' := (HB.out.cell (World.block_lt_of_cell? _ _ HGF.out)).trans HGF.out
   clear hgm hgs hgd hgf
   cases gk with
   | zero => exact absurd HA.out (by simp [impl_BestStarts_find.l])
   | succ k1 =>
    have H := HA.out
    clear HA
    rw [impl_BestStarts_find.l] at H
    by_cases c4 : x9 ≤ wrap64 (s - wrap64 (m - (l.length : Int)))
    ·rw [if_pos c4] at H
     have c4b0 : decide (x9 ≤ wrap64 (s - wrap64 (m - (l.length : Int)))) = true := decide_eq_true c4
     clear c4
     by_cases c5 : l.length < 4398046511104
     ·rw [if_pos c5] at H
      have LM := Aside0.mk c5
      clear c5
      replace H := Option.bind_eq_some_iff.mp H
      obtain ⟨o, a3, H⟩ := H
      have A3 := Aside0.mk (show impl_BestStarts_find.f k1 s m due (l ++ [x9]) (IntKind.i64.wrap (x9 + 1)) = some o by rw [i64_w]; exact a3)
      have A4 := Aside0.mk (show slices_Clone_int_int.f l = some l by unfold slices_Clone_int_int.f; rw [if_pos (by have := LM.out; omega)])
      clear a3
      have HD := Aside0.mk H
      clear H
      have qne := impl_BestStarts_ne
      cases o with
      | none =>
       have H' := Aside0.mk (show impl_BestStarts_find.l k1 s m due l (wrap64 (x9 + 1)) = some r from by simpa using HD.out)
       clear HD
       go_wp2_with (fail)
       go_region_held3 (fun w' => w'.cell? ⟨gf, 0, none⟩ = some (.func (.func 14) #[] #[.pointer (some ⟨gm, 0, none⟩), .pointer (some ⟨gs, 0, none⟩), .pointer (some ⟨gd, 0, none⟩), .pointer (some ⟨gf, 0, none⟩)])) (go_keep) (first
        | (go_at_call 17; refine (slices_Clone_int_int.calls A c l l _ ?s1 ?s2 A4.out).mono ?_; (case s1 => exact Kd.C_below HRD.out (by repeat (first | exact HB.out | apply below_drew | apply below_alloc))); (case s2 => exact HLC.out); rintro e w' ⟨v1, rfl, ho1, hb⟩; have HO1 := Aside0.mk (Kd.R_lower ho1 (below_size (by repeat (first | exact HB.out | apply below_drew | apply below_alloc) : Below w.heap.size w _))); have HCB := Aside0.mk hb; have HB1 := Aside0.mk (below_step (by repeat (first | exact HB.out | apply below_drew | apply below_alloc)) hb); clear hb ho1 HB hgf'; have HB := HB1; clear HB1; have hgf' := (HB.out.cell (World.block_lt_of_cell? _ _ HGF.out)).trans HGF.out)
        | (refine Kd.R_append_rows_step (Kd.int .i64) (w0 := w) w.heap.size (by rfl) (.tmp 35) (.tmp 37) 22 3 (.int .i64 0) 8 rfl Try.underlying22 info3 rfl (by decide) (by omega) v1 l [x9] _ 1 1 (fun _ => True) (fun _ => False) rfl rfl ?aO ?aR (fun _ _ h => h) (fun _ h => h.elim) ?aF ?aB ?aS ?aL ?_; (case aO => (with_reducible repeat (first | apply Kd.R_alloc | apply Kd.R_drewN | apply Kd.R_drew)); exact HO1.out); (case aR => first | exact impl_BestStarts_lit _ _ | (refine Kd.C_below ?_ HCB.out; first | exact impl_BestStarts_lit _ _ | (refine Kd.C_drew ?_; exact impl_BestStarts_lit _ _))); (case aF => exact (fun _ _ => trivial)); (case aB => repeat (first | exact HB.out | apply below_drew | apply below_alloc)); (case aS => exact below_size (by repeat (first | exact HB.out | apply below_drew | apply below_alloc))); (case aL => have := LM.out; omega); intro v2 w2 ho2 hb2 hg2 hat2; have HO2 := Aside0.mk ho2; clear HB HO1 HCB hgf' ho2 hg2 hat2; have HB := Aside0.mk hb2; clear hb2; have hgf' := (HB.out.cell (World.block_lt_of_cell? _ _ HGF.out)).trans HGF.out)
        | (go_at_call 14; refine (IH.out k1 ?q1 s m due gm gs gd gf base v2 (l ++ [x9]) (IntKind.i64.wrap (x9 + 1)) none _ HM.out ?q2 ?q3 ?q4 ?q5 ?q6 ?q7 A3.out).mono ?_; (case q1 => have := HK1.out; omega); (case q2 => exact (HB.out.cell (World.block_lt_of_cell? _ _ HGM.out)).trans HGM.out); (case q3 => exact (HB.out.cell (World.block_lt_of_cell? _ _ HGS.out)).trans HGS.out); (case q4 => exact (HB.out.cell (World.block_lt_of_cell? _ _ HGD.out)).trans HGD.out); (case q5 => exact hgf'); (case q6 => exact Nat.le_trans HBS.out (below_size HB.out)); (case q7 => exact Kd.R_lower HO2.out HBS.out); rintro e w' ⟨v3, rfl, hv3, hb⟩; obtain rfl := (show v3 = .slice none 0 0 from hv3); clear hv3; have HB1 := Aside0.mk (below_step HB.out hb); clear hb HB hgf'; have HB := HB1; clear HB1; have hgf' := (HB.out.cell (World.block_lt_of_cell? _ _ HGF.out)).trans HGF.out))
       all_goals go_wp2
       all_goals (go_roundg k1)
       all_goals first
        | (have := HK1.out; omega)
        | exact ⟨wrap64 (x9 + 1), (by first | rfl | exact congrArg _ (i64_w _)), H', ⟨by have := HK1.out; omega⟩, HB⟩
      | some rr =>
       obtain rfl := (show some rr = r from by simpa using HD.out)
       clear HD
       go_wp2_with (fail)
       go_region_held3 (fun w' => w'.cell? ⟨gf, 0, none⟩ = some (.func (.func 14) #[] #[.pointer (some ⟨gm, 0, none⟩), .pointer (some ⟨gs, 0, none⟩), .pointer (some ⟨gd, 0, none⟩), .pointer (some ⟨gf, 0, none⟩)])) (go_keep) (first
        | (go_at_call 17; refine (slices_Clone_int_int.calls A c l l _ ?s1 ?s2 A4.out).mono ?_; (case s1 => exact Kd.C_below HRD.out (by repeat (first | exact HB.out | apply below_drew | apply below_alloc))); (case s2 => exact HLC.out); rintro e w' ⟨v1, rfl, ho1, hb⟩; have HO1 := Aside0.mk (Kd.R_lower ho1 (below_size (by repeat (first | exact HB.out | apply below_drew | apply below_alloc) : Below w.heap.size w _))); have HCB := Aside0.mk hb; have HB1 := Aside0.mk (below_step (by repeat (first | exact HB.out | apply below_drew | apply below_alloc)) hb); clear hb ho1 HB hgf'; have HB := HB1; clear HB1; have hgf' := (HB.out.cell (World.block_lt_of_cell? _ _ HGF.out)).trans HGF.out)
        | (refine Kd.R_append_rows_step (Kd.int .i64) (w0 := w) w.heap.size (by rfl) (.tmp 35) (.tmp 37) 22 3 (.int .i64 0) 8 rfl Try.underlying22 info3 rfl (by decide) (by omega) v1 l [x9] _ 1 1 (fun _ => True) (fun _ => False) rfl rfl ?aO ?aR (fun _ _ h => h) (fun _ h => h.elim) ?aF ?aB ?aS ?aL ?_; (case aO => (with_reducible repeat (first | apply Kd.R_alloc | apply Kd.R_drewN | apply Kd.R_drew)); exact HO1.out); (case aR => first | exact impl_BestStarts_lit _ _ | (refine Kd.C_below ?_ HCB.out; first | exact impl_BestStarts_lit _ _ | (refine Kd.C_drew ?_; exact impl_BestStarts_lit _ _))); (case aF => exact (fun _ _ => trivial)); (case aB => repeat (first | exact HB.out | apply below_drew | apply below_alloc)); (case aS => exact below_size (by repeat (first | exact HB.out | apply below_drew | apply below_alloc))); (case aL => have := LM.out; omega); intro v2 w2 ho2 hb2 hg2 hat2; have HO2 := Aside0.mk ho2; clear HB HO1 HCB hgf' ho2 hg2 hat2; have HB := Aside0.mk hb2; clear hb2; have hgf' := (HB.out.cell (World.block_lt_of_cell? _ _ HGF.out)).trans HGF.out)
        | (go_at_call 14; refine (IH.out k1 ?q1 s m due gm gs gd gf base v2 (l ++ [x9]) (IntKind.i64.wrap (x9 + 1)) (some rr) _ HM.out ?q2 ?q3 ?q4 ?q5 ?q6 ?q7 A3.out).mono ?_; (case q1 => have := HK1.out; omega); (case q2 => exact (HB.out.cell (World.block_lt_of_cell? _ _ HGM.out)).trans HGM.out); (case q3 => exact (HB.out.cell (World.block_lt_of_cell? _ _ HGS.out)).trans HGS.out); (case q4 => exact (HB.out.cell (World.block_lt_of_cell? _ _ HGD.out)).trans HGD.out); (case q5 => exact hgf'); (case q6 => exact Nat.le_trans HBS.out (below_size HB.out)); (case q7 => exact Kd.R_lower HO2.out HBS.out); rintro e w' ⟨v3, rfl, ⟨⟨ad3, n3, c3, rfl⟩, ho3⟩, hb⟩; have HO3 := Aside0.mk ho3; clear ho3; have HB1 := Aside0.mk (below_step HB.out hb); clear hb HB hgf'; have HB := HB1; clear HB1; have hgf' := (HB.out.cell (World.block_lt_of_cell? _ _ HGF.out)).trans HGF.out))
       all_goals go_wp2
       all_goals go_ret
       all_goals exact ⟨_, rfl, ⟨⟨_, _, _, rfl⟩, HO3.out⟩, HB.out⟩
     ·rw [if_neg c5] at H
      exact absurd H (by simp)
    ·rw [if_neg c4] at H
     have c4b0 : decide (x9 ≤ wrap64 (s - wrap64 (m - (l.length : Int)))) = false := decide_eq_false c4
     clear c4
     obtain rfl := Option.some.inj H
     clear H
     go_wp2
     go_ret
     exact ⟨_, rfl, rfl, HB.out⟩
theorem impl_BestStarts_emp (X : World) (base : Nat) (hb : base ≤ X.heap.size) : Kd.R (Kd.int .i64) 3 (X.alloc (.cells #[] 3)) base (fun _ => True) (.slice (some ⟨X.heap.size, 0, none⟩) 0 0) [] :=
  ⟨fun _ _ => trivial, [], own_lit X base 3 .i64 [] hb (by simp), by simp [Kd.int, Kd.scalar], fun j p hj => by simp at hj⟩
set_option maxHeartbeats 8000000 in
set_option maxRecDepth 100000 in
theorem impl_BestStarts.calls (k : Nat) (a0 : Int) (a1 : Int) (r1 : List Int) (r2 : Bool) (w : World) (h : impl_BestStarts.f k a0 a1 = some (r1, r2)) :
  Calls Try.prog 5 #[.int .i64 a0, .int .i64 a1] w fun e w' => ∃ v0_ : Value, e = .returned (.tuple #[v0_, .bool r2]) ∧ Kd.R (Kd.int .i64) 3 w' w.heap.size (fun _ => True) v0_ r1 ∧ Below w.heap.size w w' := by
 have HB := Aside0.mk (Below.refl w.heap.size w)
 replace h := Option.bind_eq_some_iff.mp h
 obtain ⟨t1, b1, h⟩ := h
 have B1 := Aside0.mk b1
 clear b1
 have hu3 := Try.underlying3
 cases t1 with
 | false =>
  simp only [Bool.false_eq_true, if_false, Option.some.injEq, Prod.mk.injEq] at h
  obtain ⟨rfl, rfl⟩ := h
  go_enter Try.func5, Try.ntmps5
  go_wp2_with (go_at_call 12; (with_reducible refine (impl_in.calls a0 1 16 false _ B1.out).mono ?_); rintro e w' ⟨rfl, ⟨n1, rfl⟩⟩)
  go_ret2
  exact ⟨_, rfl, Kd.R_nil _ _ _ _ _, by repeat (first | exact HB.out | apply pw_below_drewN | apply below_alloc)⟩
 | true =>
  replace h := Option.bind_eq_some_iff.mp (show ((impl_in.f a1 1 a0).bind fun t2 => (if t2 = true then ((impl_leastTimeWith.f k a0 a1).bind fun due => ((impl_BestStarts_find.f k a0 a1 due [] 0).bind fun o => some (o.getD [], o.isSome))) else some ([], false))) = some (r1, r2) from h)
  obtain ⟨t2, b2, h⟩ := h
  have B2 := Aside0.mk b2
  clear b2
  cases t2 with
  | false =>
   simp only [Bool.false_eq_true, if_false, Option.some.injEq, Prod.mk.injEq] at h
   obtain ⟨rfl, rfl⟩ := h
   go_enter Try.func5, Try.ntmps5
   go_wp2_with (go_at_call 12; first | ((with_reducible refine (impl_in.calls a0 1 16 true _ B1.out).mono ?_); rintro e w' ⟨rfl, ⟨n1, rfl⟩⟩) | ((with_reducible refine (impl_in.calls a1 1 a0 false _ B2.out).mono ?_); rintro e w' ⟨rfl, ⟨n2, rfl⟩⟩))
   go_ret2
   exact ⟨_, rfl, Kd.R_nil _ _ _ _ _, by repeat (first | exact HB.out | apply pw_below_drewN | apply below_alloc)⟩
  | true =>
   replace h := Option.bind_eq_some_iff.mp (show ((impl_leastTimeWith.f k a0 a1).bind fun due => ((impl_BestStarts_find.f k a0 a1 due [] 0).bind fun o => some (o.getD [], o.isSome))) = some (r1, r2) from h)
   obtain ⟨due, b3, h⟩ := h
   have B3 := Aside0.mk b3
   clear b3
   replace h := Option.bind_eq_some_iff.mp h
   obtain ⟨o, b4, h⟩ := h
   have B4 := Aside0.mk b4
   clear b4
   simp only [Option.some.injEq, Prod.mk.injEq] at h
   obtain ⟨rfl, rfl⟩ := h
   have hm1 : 1 ≤ a1 := by
    have := B2.out
    unfold impl_in.f at this
    by_cases hc : 1 ≤ a1
    ·exact hc
    ·rw [if_neg hc] at this; simp at this
   have HM1 := Aside0.mk hm1
   obtain ⟨W, hW⟩ : ∃ W : Nat → World, ∀ n, W n = (((((w.alloc (.cells #[Value.int .i64 a0] 3)).alloc (.cells #[Value.int .i64 a1] 3)).drewN n).alloc (.cells #[Value.int .i64 due] 3)).alloc (.cells #[Value.nilFunc] 31)) := ⟨_, fun _ => rfl⟩
   have k0 : ∀ n, (W n).heap[w.heap.size]? = some (.cells #[.int .i64 a0] 3 (0, 0)) := fun n => by rw [hW]; exact blk_alloc (blk_alloc (w := ((w.alloc (.cells #[Value.int .i64 a0] 3)).alloc (.cells #[Value.int .i64 a1] 3)).drewN n) (blk_alloc (blk_new w _) _) _) _
   have k1 : ∀ n, (W n).heap[w.heap.size + 1]? = some (.cells #[.int .i64 a1] 3 (0, 0)) := fun n => by rw [hW]; exact blk_alloc (blk_alloc (w := ((w.alloc (.cells #[Value.int .i64 a0] 3)).alloc (.cells #[Value.int .i64 a1] 3)).drewN n) (by have := blk_new (w.alloc (.cells #[Value.int .i64 a0] 3)) (.cells #[Value.int .i64 a1] 3); simpa using this) _) _
   have k2 : ∀ n, (W n).heap[w.heap.size + 1 + 1]? = some (.cells #[.int .i64 due] 3 (0, 0)) := fun n => by rw [hW]; exact blk_alloc (by have := blk_new (((w.alloc (.cells #[Value.int .i64 a0] 3)).alloc (.cells #[Value.int .i64 a1] 3)).drewN n) (.cells #[Value.int .i64 due] 3); simpa using this) _
   have k3 : ∀ n, (W n).heap[w.heap.size + 1 + 1 + 1]? = some (.cells #[.nilFunc] 31 (0, 0)) := fun n => by rw [hW]; have := blk_new ((((w.alloc (.cells #[Value.int .i64 a0] 3)).alloc (.cells #[Value.int .i64 a1] 3)).drewN n).alloc (.cells #[Value.int .i64 due] 3)) (.cells #[Value.nilFunc] 31); simpa using this
   have kb : ∀ n, Below w.heap.size w (W n) := fun n => by rw [hW]; exact below_alloc (below_alloc (pw_below_drewN (below_alloc (below_alloc HB.out _) _) n) _) _
   have hst : ∀ n, (store ⟨w.heap.size + 1 + 1 + 1, 0, none⟩ (Value.func (.func 14) #[] #[.pointer (some ⟨w.heap.size + 1, 0, none⟩), .pointer (some ⟨w.heap.size, 0, none⟩), .pointer (some ⟨w.heap.size + 1 + 1, 0, none⟩), .pointer (some ⟨w.heap.size + 1 + 1 + 1, 0, none⟩)])).run Try.prog (W n) = .ok () ((W n).setCell ⟨w.heap.size + 1 + 1 + 1, 0, none⟩ (Value.func (.func 14) #[] #[.pointer (some ⟨w.heap.size + 1, 0, none⟩), .pointer (some ⟨w.heap.size, 0, none⟩), .pointer (some ⟨w.heap.size + 1 + 1, 0, none⟩), .pointer (some ⟨w.heap.size + 1 + 1 + 1, 0, none⟩)])) := fun n => by
    rw [run_store Try.prog (W n) _ (Value.func (.func 14) #[] #[.pointer (some ⟨w.heap.size + 1, 0, none⟩), .pointer (some ⟨w.heap.size, 0, none⟩), .pointer (some ⟨w.heap.size + 1 + 1, 0, none⟩), .pointer (some ⟨w.heap.size + 1 + 1 + 1, 0, none⟩)]) _ (by rfl), (blk_cell (k3 n) 0).trans rfl]
    simp [blk_frozen (k3 n) 0]
   have hld : ∀ n, ((W n).setCell ⟨w.heap.size + 1 + 1 + 1, 0, none⟩ (Value.func (.func 14) #[] #[.pointer (some ⟨w.heap.size + 1, 0, none⟩), .pointer (some ⟨w.heap.size, 0, none⟩), .pointer (some ⟨w.heap.size + 1 + 1, 0, none⟩), .pointer (some ⟨w.heap.size + 1 + 1 + 1, 0, none⟩)])).cell? ⟨w.heap.size + 1 + 1 + 1, 0, none⟩ = some (Value.func (.func 14) #[] #[.pointer (some ⟨w.heap.size + 1, 0, none⟩), .pointer (some ⟨w.heap.size, 0, none⟩), .pointer (some ⟨w.heap.size + 1 + 1, 0, none⟩), .pointer (some ⟨w.heap.size + 1 + 1 + 1, 0, none⟩)]) := fun n => (blk_cell (blk_set (k3 n) 0 (Value.func (.func 14) #[] #[.pointer (some ⟨w.heap.size + 1, 0, none⟩), .pointer (some ⟨w.heap.size, 0, none⟩), .pointer (some ⟨w.heap.size + 1 + 1, 0, none⟩), .pointer (some ⟨w.heap.size + 1 + 1 + 1, 0, none⟩)])) 0).trans rfl
   have KS := Aside0.mk (fun n => (blk_cell (blk_far (k0 n) (p := ⟨w.heap.size + 1 + 1 + 1, 0, none⟩) (by show w.heap.size ≠ w.heap.size + 1 + 1 + 1; omega) (Value.func (.func 14) #[] #[.pointer (some ⟨w.heap.size + 1, 0, none⟩), .pointer (some ⟨w.heap.size, 0, none⟩), .pointer (some ⟨w.heap.size + 1 + 1, 0, none⟩), .pointer (some ⟨w.heap.size + 1 + 1 + 1, 0, none⟩)])) 0).trans rfl : ∀ n, ((W n).setCell ⟨w.heap.size + 1 + 1 + 1, 0, none⟩ (Value.func (.func 14) #[] #[.pointer (some ⟨w.heap.size + 1, 0, none⟩), .pointer (some ⟨w.heap.size, 0, none⟩), .pointer (some ⟨w.heap.size + 1 + 1, 0, none⟩), .pointer (some ⟨w.heap.size + 1 + 1 + 1, 0, none⟩)])).cell? ⟨w.heap.size, 0, none⟩ = some (.int .i64 a0))
   have KM := Aside0.mk (fun n => (blk_cell (blk_far (k1 n) (p := ⟨w.heap.size + 1 + 1 + 1, 0, none⟩) (by show w.heap.size + 1 ≠ w.heap.size + 1 + 1 + 1; omega) (Value.func (.func 14) #[] #[.pointer (some ⟨w.heap.size + 1, 0, none⟩), .pointer (some ⟨w.heap.size, 0, none⟩), .pointer (some ⟨w.heap.size + 1 + 1, 0, none⟩), .pointer (some ⟨w.heap.size + 1 + 1 + 1, 0, none⟩)])) 0).trans rfl : ∀ n, ((W n).setCell ⟨w.heap.size + 1 + 1 + 1, 0, none⟩ (Value.func (.func 14) #[] #[.pointer (some ⟨w.heap.size + 1, 0, none⟩), .pointer (some ⟨w.heap.size, 0, none⟩), .pointer (some ⟨w.heap.size + 1 + 1, 0, none⟩), .pointer (some ⟨w.heap.size + 1 + 1 + 1, 0, none⟩)])).cell? ⟨w.heap.size + 1, 0, none⟩ = some (.int .i64 a1))
   have KD := Aside0.mk (fun n => (blk_cell (blk_far (k2 n) (p := ⟨w.heap.size + 1 + 1 + 1, 0, none⟩) (by show w.heap.size + 1 + 1 ≠ w.heap.size + 1 + 1 + 1; omega) (Value.func (.func 14) #[] #[.pointer (some ⟨w.heap.size + 1, 0, none⟩), .pointer (some ⟨w.heap.size, 0, none⟩), .pointer (some ⟨w.heap.size + 1 + 1, 0, none⟩), .pointer (some ⟨w.heap.size + 1 + 1 + 1, 0, none⟩)])) 0).trans rfl : ∀ n, ((W n).setCell ⟨w.heap.size + 1 + 1 + 1, 0, none⟩ (Value.func (.func 14) #[] #[.pointer (some ⟨w.heap.size + 1, 0, none⟩), .pointer (some ⟨w.heap.size, 0, none⟩), .pointer (some ⟨w.heap.size + 1 + 1, 0, none⟩), .pointer (some ⟨w.heap.size + 1 + 1 + 1, 0, none⟩)])).cell? ⟨w.heap.size + 1 + 1, 0, none⟩ = some (.int .i64 due))
   have KF := Aside0.mk hld
   have KB := Aside0.mk (fun n => (kb n).setCell (p := ⟨w.heap.size + 1 + 1 + 1, 0, none⟩) (by show w.heap.size ≤ w.heap.size + 1 + 1 + 1; omega) (Value.func (.func 14) #[] #[.pointer (some ⟨w.heap.size + 1, 0, none⟩), .pointer (some ⟨w.heap.size, 0, none⟩), .pointer (some ⟨w.heap.size + 1 + 1, 0, none⟩), .pointer (some ⟨w.heap.size + 1 + 1 + 1, 0, none⟩)]) : ∀ n, Below w.heap.size w ((W n).setCell ⟨w.heap.size + 1 + 1 + 1, 0, none⟩ (Value.func (.func 14) #[] #[.pointer (some ⟨w.heap.size + 1, 0, none⟩), .pointer (some ⟨w.heap.size, 0, none⟩), .pointer (some ⟨w.heap.size + 1 + 1, 0, none⟩), .pointer (some ⟨w.heap.size + 1 + 1 + 1, 0, none⟩)])))
   have HW := Aside0.mk hW
   clear k0 k1 k2 k3 kb hW
   have HST := Aside0.mk hst
   have qne := impl_BestStarts_ne
   go_enter Try.func5, Try.ntmps5
   cases o with
   | none =>
    go_wp2_with (first | (go_at_call 12; first | ((with_reducible refine (impl_in.calls a0 1 16 true _ B1.out).mono ?_); rintro e w' ⟨rfl, ⟨n1, rfl⟩⟩) | ((with_reducible refine (impl_in.calls a1 1 a0 true _ B2.out).mono ?_); rintro e w' ⟨rfl, ⟨n2, rfl⟩⟩)) | (go_at_call 13; (with_reducible refine (impl_leastTimeWith.calls k a0 a1 due _ B3.out).mono ?_); rintro e w' ⟨rfl, ⟨n3, rfl⟩⟩) | (rw [← HW.out, HST.out]) | (go_at_call 14; refine (impl_BestStarts_find.calls k a0 a1 due (w.heap.size + 1) w.heap.size (w.heap.size + 1 + 1) (w.heap.size + 1 + 1 + 1) w.heap.size _ [] 0 none _ HM1.out ?q2 ?q3 ?q4 ?q5 ?q6 ?q7 B4.out).mono ?_; (case q2 => exact pw_cell_below (below_alloc (Below.refl _ _) _) (KM.out _)); (case q3 => exact pw_cell_below (below_alloc (Below.refl _ _) _) (KS.out _)); (case q4 => exact pw_cell_below (below_alloc (Below.refl _ _) _) (KD.out _)); (case q5 => exact pw_cell_below (below_alloc (Below.refl _ _) _) (KF.out _)); (case q6 => exact below_size (below_alloc (KB.out _) _)); (case q7 => have he := impl_BestStarts_emp _ w.heap.size (below_size (KB.out (n1 + n2 + n3))); simpa using he); rintro e w' ⟨v3, rfl, hv3, hb⟩; obtain rfl := (show v3 = .slice none 0 0 from hv3); clear hv3; have HB1 := Aside0.mk (below_step (below_alloc (KB.out _) _) hb); clear hb HB; have HB := HB1; clear HB1))
    go_ret2
    exact ⟨_, rfl, Kd.R_nil _ _ _ _ _, HB.out⟩
   | some rr =>
    go_wp2_with (first | (go_at_call 12; first | ((with_reducible refine (impl_in.calls a0 1 16 true _ B1.out).mono ?_); rintro e w' ⟨rfl, ⟨n1, rfl⟩⟩) | ((with_reducible refine (impl_in.calls a1 1 a0 true _ B2.out).mono ?_); rintro e w' ⟨rfl, ⟨n2, rfl⟩⟩)) | (go_at_call 13; (with_reducible refine (impl_leastTimeWith.calls k a0 a1 due _ B3.out).mono ?_); rintro e w' ⟨rfl, ⟨n3, rfl⟩⟩) | (rw [← HW.out, HST.out]) | (go_at_call 14; refine (impl_BestStarts_find.calls k a0 a1 due (w.heap.size + 1) w.heap.size (w.heap.size + 1 + 1) (w.heap.size + 1 + 1 + 1) w.heap.size _ [] 0 (some rr) _ HM1.out ?q2 ?q3 ?q4 ?q5 ?q6 ?q7 B4.out).mono ?_; (case q2 => exact pw_cell_below (below_alloc (Below.refl _ _) _) (KM.out _)); (case q3 => exact pw_cell_below (below_alloc (Below.refl _ _) _) (KS.out _)); (case q4 => exact pw_cell_below (below_alloc (Below.refl _ _) _) (KD.out _)); (case q5 => exact pw_cell_below (below_alloc (Below.refl _ _) _) (KF.out _)); (case q6 => exact below_size (below_alloc (KB.out _) _)); (case q7 => have he := impl_BestStarts_emp _ w.heap.size (below_size (KB.out (n1 + n2 + n3))); simpa using he); rintro e w' ⟨v3, rfl, ⟨⟨ad3, n3', c3, rfl⟩, ho3⟩, hb⟩; have HO3 := Aside0.mk ho3; clear ho3; have HB1 := Aside0.mk (below_step (below_alloc (KB.out _) _) hb); clear hb HB; have HB := HB1; clear HB1))
    go_ret2
    exact ⟨_, rfl, HO3.out, HB.out⟩

/-! ### laws_eqIntS: function 6 -/
def laws_eqIntS.l0 : Nat → List Int → List Int → Int → Option (Bool)
  | 0, _, _, _ => none
  | k + 1, x0, x1, x5 => if x5 < (x0.length : Int) then (if 0 ≤ x5 then (if x5 < (x1.length : Int) then (if (rd x0 x5) = (rd x1 x5) then (laws_eqIntS.l0 k x0 x1 (wrap64 (x5 + 1))) else (some false)) else (none)) else (none)) else (some true)
def laws_eqIntS.f (k : Nat) (l0 : List Int) (l1 : List Int) : Option (Bool) := if (l0.length : Int) = (l1.length : Int) then (laws_eqIntS.l0 k l0 l1 0) else (some false)
theorem laws_eqIntS.mono_l : ∀ k, (∀ y0 y1 y2, LeO (laws_eqIntS.l0 k y0 y1 y2) (laws_eqIntS.l0 (k + 1) y0 y1 y2))
  | 0 => fun _ _ _ r h => by simp [laws_eqIntS.l0] at h
  | k + 1 => by
    have ih0 := laws_eqIntS.mono_l k
    · intro y0 y1 y2
      unfold laws_eqIntS.l0
      repeat' first
      | (with_reducible exact ih0 _ _ _)
      | (with_reducible exact LeO.refl _)
      | (with_reducible exact LeO.none _)
      | (with_reducible refine LeO.ite ?_ ?_)
      | (with_reducible refine LeO.bind ?_ (fun _ => ?_))
      | exact ih0 _ _ _
      | exact LeO.none _
      | refine LeO.ite ?_ ?_
      | refine LeO.bind ?_ (fun _ => ?_)
theorem laws_eqIntS.mono : ∀ a0 a1 k, LeO (laws_eqIntS.f k a0 a1) (laws_eqIntS.f (k + 1) a0 a1) := by
  intro a0 a1 k
  have ih0 := laws_eqIntS.mono_l k
  unfold laws_eqIntS.f
  repeat' first
      | (with_reducible exact ih0 _ _ _)
      | (with_reducible exact LeO.refl _)
      | (with_reducible exact LeO.none _)
      | (with_reducible refine LeO.ite ?_ ?_)
      | (with_reducible refine LeO.bind ?_ (fun _ => ?_))
      | exact ih0 _ _ _
      | exact LeO.none _
      | refine LeO.ite ?_ ?_
      | refine LeO.bind ?_ (fun _ => ?_)
set_option maxHeartbeats 8000000 in
set_option maxRecDepth 100000 in
theorem laws_eqIntS.calls (k : Nat) (A0 : Option Addr) (c0 : Nat) (l0 : List Int) (A1 : Option Addr) (c1 : Nat) (l1 : List Int) (r : Bool) (w : World) (hr0 : Kd.C (Kd.int .i64) w A0 l0.length l0) (hc0 : l0.length ≤ c0) (hr1 : Kd.C (Kd.int .i64) w A1 l1.length l1) (hc1 : l1.length ≤ c1) (h : laws_eqIntS.f k l0 l1 = some r) :
  Calls Try.prog 6 #[.slice A0 l0.length c0, .slice A1 l1.length c1] w fun e w' => e = .returned (.bool r) ∧ Drawn0 w w' := by
 have HR0 := Aside0.mk hr0
 have HC0 := Aside0.mk hc0
 clear hr0 hc0
 have HR1 := Aside0.mk hr1
 have HC1 := Aside0.mk hc1
 clear hr1 hc1
 unfold laws_eqIntS.f at h
 have H := h
 clear h
 by_cases c3 : (l0.length : Int) = (l1.length : Int)
 ·rw [if_pos c3] at H
  have c3b0 : ((l0.length : Int) == (l1.length : Int)) = true := beq_iff_eq.mpr c3
  have c3b1 : ((l0.length : Int) != (l1.length : Int)) = false := bne_eq_false_iff_eq.mpr c3
  have c3b2 : (l0.length == l1.length) = true := by first | simpa using c3 | (simp at c3 ⊢; omega)
  clear c3
  have H' := Aside0.mk H
  clear H
  go_enter Try.func6, Try.ntmps6
  go_wp2
  repeat (go_quiet (fail); try go_wp2)
  go_loopg [5] k (fun kq v5 w' => ∃ (x5_1 : Int), v5 = .int .i64 x5_1 ∧ Aside0 (laws_eqIntS.l0 kq l0 l1 x5_1 = some r) ∧ Aside0 (kq ≤ k) ∧ Drawn0 w w')
  case atStart => exact ⟨(0), (rs), H', ⟨Nat.le_refl _⟩, by repeat (first | exact Drawn0.refl _ | apply Drawn0.step)⟩
  case round =>
   clear H'
   try clear c1
   try clear p2
   try clear c3
   try clear c3b0
   try clear c3b1
   try clear c3b2
   obtain ⟨x5_1, rfl, HA, HK1, ⟨m1, rfl⟩⟩ := hrel
   cases gk with
   | zero => exact absurd HA.out (by simp [laws_eqIntS.l0])
   | succ k1 =>
    have H := HA.out
    clear HA
    simp only [laws_eqIntS.l0] at H
    by_cases c4 : x5_1 < (l0.length : Int)
    ·rw [if_pos c4] at H
     have c4b0 : decide (x5_1 < (l0.length : Int)) = true := decide_eq_true c4
     clear c4
     by_cases c5 : 0 ≤ x5_1
     ·rw [if_pos c5] at H
      have c5b0 : decide (0 ≤ x5_1) = true := decide_eq_true c5
      clear c5
      by_cases c6 : x5_1 < (l1.length : Int)
      ·rw [if_pos c6] at H
       have c6b0 : decide (x5_1 < (l1.length : Int)) = true := decide_eq_true c6
       clear c6
       by_cases c7 : (rd l0 x5_1) = (rd l1 x5_1)
       ·rw [if_pos c7] at H
        have c7b0 : ((rd l0 x5_1) == (rd l1 x5_1)) = true := beq_iff_eq.mpr c7
        have c7b1 : ((rd l0 x5_1) != (rd l1 x5_1)) = false := bne_eq_false_iff_eq.mpr c7
        clear c7
        have H' := Aside0.mk H
        clear H
        have p147 : 0 ≤ (x5_1 : Int) := of_decide_eq_true (by first | (with_reducible assumption) | assumption)
        have q147 : x5_1 < (l0.length : Int) := of_decide_eq_true (by first | (with_reducible assumption) | assumption)
        obtain ⟨ad147, e147, hx147_0⟩ := Kd.at_int HR0.out x5_1 p147 q147
        cases e147
        replace p147 := eq_true p147
        replace q147 := eq_true q147
        have p148 : 0 ≤ (x5_1 : Int) := of_decide_eq_true (by first | (with_reducible assumption) | assumption)
        have q148 : x5_1 < (l1.length : Int) := of_decide_eq_true (by first | (with_reducible assumption) | assumption)
        obtain ⟨ad148, e148, hx148_0⟩ := Kd.at_int HR1.out x5_1 p148 q148
        cases e148
        replace p148 := eq_true p148
        replace q148 := eq_true q148
        go_wp2
        repeat (go_quiet (fail); try go_wp2)
        go_roundg k1
        case measure => have := HK1.out; omega
        case rel => exact ⟨(wrap64 (x5_1 + 1)), (rs), H', ⟨by have := HK1.out; omega⟩, by repeat (first | exact Drawn0.refl _ | apply Drawn0.step)⟩
       ·rw [if_neg c7] at H
        have c7b0 : ((rd l0 x5_1) == (rd l1 x5_1)) = false := beq_eq_false_iff_ne.mpr c7
        have c7b1 : ((rd l0 x5_1) != (rd l1 x5_1)) = true := bne_iff_ne.mpr c7
        obtain rfl := Option.some.inj H
        have p147 : 0 ≤ (x5_1 : Int) := of_decide_eq_true (by first | (with_reducible assumption) | assumption)
        have q147 : x5_1 < (l0.length : Int) := of_decide_eq_true (by first | (with_reducible assumption) | assumption)
        obtain ⟨ad147, e147, hx147_0⟩ := Kd.at_int HR0.out x5_1 p147 q147
        cases e147
        replace p147 := eq_true p147
        replace q147 := eq_true q147
        have p148 : 0 ≤ (x5_1 : Int) := of_decide_eq_true (by first | (with_reducible assumption) | assumption)
        have q148 : x5_1 < (l1.length : Int) := of_decide_eq_true (by first | (with_reducible assumption) | assumption)
        obtain ⟨ad148, e148, hx148_0⟩ := Kd.at_int HR1.out x5_1 p148 q148
        cases e148
        replace p148 := eq_true p148
        replace q148 := eq_true q148
        go_wp2
        repeat (go_quiet (fail); try go_wp2)
        go_ret
        exact ⟨rs, by repeat (first | exact Drawn0.refl _ | apply Drawn0.step)⟩
      ·rw [if_neg c6] at H
       exact absurd H (by simp)
     ·rw [if_neg c5] at H
      exact absurd H (by simp)
    ·rw [if_neg c4] at H
     have c4b0 : decide (x5_1 < (l0.length : Int)) = false := decide_eq_false c4
     clear c4
     obtain rfl := Option.some.inj H
     go_wp2
     repeat (go_quiet (fail); try go_wp2)
     go_ret
     exact ⟨rs, by repeat (first | exact Drawn0.refl _ | apply Drawn0.step)⟩
 ·rw [if_neg c3] at H
  have c3b0 : ((l0.length : Int) == (l1.length : Int)) = false := beq_eq_false_iff_ne.mpr c3
  have c3b1 : ((l0.length : Int) != (l1.length : Int)) = true := bne_iff_ne.mpr c3
  have c3b2 : (l0.length == l1.length) = false := by first | simpa using c3 | (simp at c3 ⊢; omega)
  obtain rfl := Option.some.inj H
  go_enter Try.func6, Try.ntmps6
  go_wp2
  repeat (go_quiet (fail); try go_wp2)
  go_ret
  exact ⟨rs, by repeat (first | exact Drawn0.refl _ | apply Drawn0.step)⟩

end Go.Proofs.Ytjnkjnpopejgaaa.PFnExactBestStarts
