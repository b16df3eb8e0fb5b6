-- Laid by xprint, a program of this session that runs over the kit's print.
import Derived.Test.YtphfbldnoinanaaPFnExactAddCluex0
import Derived.Test.YtphfbldnoinanaaPFnExactAddCluex1
import Derived.Test.YtphfbldnoinanaaPFnExactAddCluex3
import Derived.Test.YtphfbldnoinanaaPFnExactAddCluex5
import Derived.Test.YtphfbldnoinanaaPFnExactAddCluex6
namespace Go.Proofs.Ytphfbldnoinanaa.PFnExactAddClue
open Go.RowKit Go.Proofs.YtphfbldnoinanaaW.PrintWords Go.Proofs.YtphfbldnoinanaaW.PrintLast Go.Proofs.YtphfbldnoinanaaW.PrintMore Go.Proofs.Ytphfbldnoinanaa.Sq
attribute [local go_sem] max2_int min2_int max_two min_two max_three min_three max_four min_four   -- for this text's walks alone
set_option linter.unusedVariables false
set_option linter.unusedSimpArgs false

/-! ### laws_FnExactAddClue: function 4 -/
mutual
def laws_FnExactAddClue.j0 : Nat → Bool → Bool → Bool → Int → List (S34) → Int → Int → Int → Int → Int → List (S37) → Int → List (S37) → Int → List (S37) → Option (Bool)
  | 0, _, _, _, _, _, _, _, _, _, _, _, _, _, _, _ => none
  | k + 1, x7, x10, x46, x200000, x200001, x201000, x201001, x201002, x201003, x216000, x216001, x221000, x221001, x231000, x231001 => if x46 = true then (some false) else ((laws_toPuzzle.f k x200000 x200001).bind fun bt232 => ((laws_eqPuzzle.f k x221000 x221001 bt232.1 bt232.2).bind fun t236 => (if t236 = true then ((laws_markPuzzle.f k x221000 x221001 1).bind fun bt237 => (if bt237.1 < 0 then (laws_FnExactAddClue.j1 k x7 true x200000 x200001 x201000 x201001 x201002 x201003 x216000 x216001 x231000 x231001) else ((laws_eqPuzzle.f k x231000 x231001 x216000 x216001).bind fun t239 => (if t239 = true then (laws_FnExactAddClue.j1 k x7 (x10 != x7) x200000 x200001 x201000 x201001 x201002 x201003 x216000 x216001 x231000 x231001) else (laws_FnExactAddClue.j1 k x7 true x200000 x200001 x201000 x201001 x201002 x201003 x216000 x216001 x231000 x231001))))) else (some false))))
def laws_FnExactAddClue.j1 : Nat → Bool → Bool → Int → List (S34) → Int → Int → Int → Int → Int → List (S37) → Int → List (S37) → Option (Bool)
  | 0, _, _, _, _, _, _, _, _, _, _, _, _ => none
  | k + 1, x7, x67, x200000, x200001, x201000, x201001, x201002, x201003, x216000, x216001, x231000, x231001 => if x67 = true then (some false) else ((laws_markPuzzle.f k x231000 x231001 1).bind fun bt240 => ((laws_heldPuzzle.f k x231000 bt240.2 1).bind fun t242 => (if t242 < 0 then (some false) else (if t242 = bt240.1 then ((laws_toPuzzle.f k x200000 x200001).bind fun bt243 => ((laws_toClue.f x201000 x201001 x201002 x201003).bind fun bt247 => ((impl_AddClue.f k bt243.1 bt243.2 bt247.1 bt247.2.1 bt247.2.2.1 bt247.2.2.2).bind fun bt251 => ((laws_eqPuzzle.f k bt251.1 bt251.2.1 x216000 x216001).bind fun t257 => (if t257 = true then (laws_FnExactAddClue.j2 k bt240.1 (bt251.2.2 != x7) x231000 bt240.2) else (laws_FnExactAddClue.j2 k bt240.1 true x231000 bt240.2)))))) else (some false)))))
def laws_FnExactAddClue.j2 : Nat → Int → Bool → Int → List (S37) → Option (Bool)
  | 0, _, _, _, _ => none
  | k + 1, x12, x95, x231000, x231001 => if x95 = true then (some false) else ((laws_heldPuzzle.f k x231000 x231001 1).bind fun t258 => (if t258 < 0 then (some false) else (if t258 = x12 then (some true) else (some false))))
end
def laws_FnExactAddClue.f (k : Nat) (a0_0 : Int) (l0_1 : List (S34)) (a1_0 : Int) (a1_1 : Int) (a1_2 : Int) (a1_3 : Int) : Option (Bool) := (laws_szPuzzle.f a0_0 l0_1 1048576).bind fun t201 => (if t201 < 0 then (some true) else ((laws_toPuzzle.f k a0_0 l0_1).bind fun bt202 => ((laws_toClue.f a1_0 a1_1 a1_2 a1_3).bind fun bt206 => ((spec_AddClue.f k bt202.1 bt202.2 bt206.1 bt206.2.1 bt206.2.2.1 bt206.2.2.2).bind fun bt210 => ((laws_toPuzzle.f k a0_0 l0_1).bind fun bt216 => ((laws_toClue.f a1_0 a1_1 a1_2 a1_3).bind fun bt221 => ((impl_AddClue.f k bt216.1 bt216.2 bt221.1 bt221.2.1 bt221.2.2.1 bt221.2.2.2).bind fun bt225 => ((laws_eqPuzzle.f k bt225.1 bt225.2.1 bt210.1 bt210.2.1).bind fun t231 => (if t231 = true then (laws_FnExactAddClue.j0 k bt210.2.2 bt225.2.2 (bt225.2.2 != bt210.2.2) a0_0 l0_1 a1_0 a1_1 a1_2 a1_3 bt210.1 bt210.2.1 bt216.1 bt216.2 bt225.1 bt225.2.1) else (laws_FnExactAddClue.j0 k bt210.2.2 bt225.2.2 true a0_0 l0_1 a1_0 a1_1 a1_2 a1_3 bt210.1 bt210.2.1 bt216.1 bt216.2 bt225.1 bt225.2.1))))))))))
theorem laws_FnExactAddClue.mono_l : ∀ k, (∀ y0 y1 y2 y3 y4 y5 y6 y7 y8 y9 y10 y11 y12 y13 y14, LeO (laws_FnExactAddClue.j0 k y0 y1 y2 y3 y4 y5 y6 y7 y8 y9 y10 y11 y12 y13 y14) (laws_FnExactAddClue.j0 (k + 1) y0 y1 y2 y3 y4 y5 y6 y7 y8 y9 y10 y11 y12 y13 y14)) ∧ (∀ y0 y1 y2 y3 y4 y5 y6 y7 y8 y9 y10 y11, LeO (laws_FnExactAddClue.j1 k y0 y1 y2 y3 y4 y5 y6 y7 y8 y9 y10 y11) (laws_FnExactAddClue.j1 (k + 1) y0 y1 y2 y3 y4 y5 y6 y7 y8 y9 y10 y11)) ∧ (∀ y0 y1 y2 y3, LeO (laws_FnExactAddClue.j2 k y0 y1 y2 y3) (laws_FnExactAddClue.j2 (k + 1) y0 y1 y2 y3))
  | 0 => ⟨fun _ _ _ _ _ _ _ _ _ _ _ _ _ _ _ r h => by simp [laws_FnExactAddClue.j0] at h, fun _ _ _ _ _ _ _ _ _ _ _ _ r h => by simp [laws_FnExactAddClue.j1] at h, fun _ _ _ _ r h => by simp [laws_FnExactAddClue.j2] at h⟩
  | k + 1 => by
    obtain ⟨ih0, ih1, ih2⟩ := laws_FnExactAddClue.mono_l k
    refine ⟨?_, ?_, ?_⟩
    · intro y0 y1 y2 y3 y4 y5 y6 y7 y8 y9 y10 y11 y12 y13 y14
      unfold laws_FnExactAddClue.j0
      repeat' first
      | (with_reducible exact ih0 _ _ _ _ _ _ _ _ _ _ _ _ _ _ _)
      | (with_reducible exact ih1 _ _ _ _ _ _ _ _ _ _ _ _)
      | (with_reducible exact ih2 _ _ _ _)
      | (with_reducible exact impl_AddClue.mono _ _ _ _ _ _ _)
      | (with_reducible exact laws_eqPuzzle.mono _ _ _ _ _)
      | (with_reducible exact laws_heldPuzzle.mono _ _ _ _)
      | (with_reducible exact laws_markPuzzle.mono _ _ _ _)
      | (with_reducible exact laws_toPuzzle.mono _ _ _)
      | (with_reducible exact spec_AddClue.mono _ _ _ _ _ _ _)
      | (with_reducible exact LeO.refl _)
      | (with_reducible exact LeO.none _)
      | (with_reducible refine LeO.ite ?_ ?_)
      | (with_reducible refine LeO.bind ?_ (fun _ => ?_))
      | exact ih0 _ _ _ _ _ _ _ _ _ _ _ _ _ _ _
      | exact ih1 _ _ _ _ _ _ _ _ _ _ _ _
      | exact ih2 _ _ _ _
      | exact impl_AddClue.mono _ _ _ _ _ _ _
      | exact laws_eqPuzzle.mono _ _ _ _ _
      | exact laws_heldPuzzle.mono _ _ _ _
      | exact laws_markPuzzle.mono _ _ _ _
      | exact laws_toPuzzle.mono _ _ _
      | exact spec_AddClue.mono _ _ _ _ _ _ _
      | exact LeO.none _
      | refine LeO.ite ?_ ?_
      | refine LeO.bind ?_ (fun _ => ?_)
    · intro y0 y1 y2 y3 y4 y5 y6 y7 y8 y9 y10 y11
      unfold laws_FnExactAddClue.j1
      repeat' first
      | (with_reducible exact ih0 _ _ _ _ _ _ _ _ _ _ _ _ _ _ _)
      | (with_reducible exact ih1 _ _ _ _ _ _ _ _ _ _ _ _)
      | (with_reducible exact ih2 _ _ _ _)
      | (with_reducible exact impl_AddClue.mono _ _ _ _ _ _ _)
      | (with_reducible exact laws_eqPuzzle.mono _ _ _ _ _)
      | (with_reducible exact laws_heldPuzzle.mono _ _ _ _)
      | (with_reducible exact laws_markPuzzle.mono _ _ _ _)
      | (with_reducible exact laws_toPuzzle.mono _ _ _)
      | (with_reducible exact spec_AddClue.mono _ _ _ _ _ _ _)
      | (with_reducible exact LeO.refl _)
      | (with_reducible exact LeO.none _)
      | (with_reducible refine LeO.ite ?_ ?_)
      | (with_reducible refine LeO.bind ?_ (fun _ => ?_))
      | exact ih0 _ _ _ _ _ _ _ _ _ _ _ _ _ _ _
      | exact ih1 _ _ _ _ _ _ _ _ _ _ _ _
      | exact ih2 _ _ _ _
      | exact impl_AddClue.mono _ _ _ _ _ _ _
      | exact laws_eqPuzzle.mono _ _ _ _ _
      | exact laws_heldPuzzle.mono _ _ _ _
      | exact laws_markPuzzle.mono _ _ _ _
      | exact laws_toPuzzle.mono _ _ _
      | exact spec_AddClue.mono _ _ _ _ _ _ _
      | exact LeO.none _
      | refine LeO.ite ?_ ?_
      | refine LeO.bind ?_ (fun _ => ?_)
    · intro y0 y1 y2 y3
      unfold laws_FnExactAddClue.j2
      repeat' first
      | (with_reducible exact ih0 _ _ _ _ _ _ _ _ _ _ _ _ _ _ _)
      | (with_reducible exact ih1 _ _ _ _ _ _ _ _ _ _ _ _)
      | (with_reducible exact ih2 _ _ _ _)
      | (with_reducible exact impl_AddClue.mono _ _ _ _ _ _ _)
      | (with_reducible exact laws_eqPuzzle.mono _ _ _ _ _)
      | (with_reducible exact laws_heldPuzzle.mono _ _ _ _)
      | (with_reducible exact laws_markPuzzle.mono _ _ _ _)
      | (with_reducible exact laws_toPuzzle.mono _ _ _)
      | (with_reducible exact spec_AddClue.mono _ _ _ _ _ _ _)
      | (with_reducible exact LeO.refl _)
      | (with_reducible exact LeO.none _)
      | (with_reducible refine LeO.ite ?_ ?_)
      | (with_reducible refine LeO.bind ?_ (fun _ => ?_))
      | exact ih0 _ _ _ _ _ _ _ _ _ _ _ _ _ _ _
      | exact ih1 _ _ _ _ _ _ _ _ _ _ _ _
      | exact ih2 _ _ _ _
      | exact impl_AddClue.mono _ _ _ _ _ _ _
      | exact laws_eqPuzzle.mono _ _ _ _ _
      | exact laws_heldPuzzle.mono _ _ _ _
      | exact laws_markPuzzle.mono _ _ _ _
      | exact laws_toPuzzle.mono _ _ _
      | exact spec_AddClue.mono _ _ _ _ _ _ _
      | exact LeO.none _
      | refine LeO.ite ?_ ?_
      | refine LeO.bind ?_ (fun _ => ?_)
theorem laws_FnExactAddClue.mono : ∀ a0 a1 a2 a3 a4 a5 k, LeO (laws_FnExactAddClue.f k a0 a1 a2 a3 a4 a5) (laws_FnExactAddClue.f (k + 1) a0 a1 a2 a3 a4 a5) := by
  intro a0 a1 a2 a3 a4 a5 k
  obtain ⟨ih0, ih1, ih2⟩ := laws_FnExactAddClue.mono_l k
  unfold laws_FnExactAddClue.f
  repeat' first
      | (with_reducible exact ih0 _ _ _ _ _ _ _ _ _ _ _ _ _ _ _)
      | (with_reducible exact ih1 _ _ _ _ _ _ _ _ _ _ _ _)
      | (with_reducible exact ih2 _ _ _ _)
      | (with_reducible exact impl_AddClue.mono _ _ _ _ _ _ _)
      | (with_reducible exact laws_eqPuzzle.mono _ _ _ _ _)
      | (with_reducible exact laws_heldPuzzle.mono _ _ _ _)
      | (with_reducible exact laws_markPuzzle.mono _ _ _ _)
      | (with_reducible exact laws_toPuzzle.mono _ _ _)
      | (with_reducible exact spec_AddClue.mono _ _ _ _ _ _ _)
      | (with_reducible exact LeO.refl _)
      | (with_reducible exact LeO.none _)
      | (with_reducible refine LeO.ite ?_ ?_)
      | (with_reducible refine LeO.bind ?_ (fun _ => ?_))
      | exact ih0 _ _ _ _ _ _ _ _ _ _ _ _ _ _ _
      | exact ih1 _ _ _ _ _ _ _ _ _ _ _ _
      | exact ih2 _ _ _ _
      | exact impl_AddClue.mono _ _ _ _ _ _ _
      | exact laws_eqPuzzle.mono _ _ _ _ _
      | exact laws_heldPuzzle.mono _ _ _ _
      | exact laws_markPuzzle.mono _ _ _ _
      | exact laws_toPuzzle.mono _ _ _
      | exact spec_AddClue.mono _ _ _ _ _ _ _
      | exact LeO.none _
      | refine LeO.ite ?_ ?_
      | refine LeO.bind ?_ (fun _ => ?_)
def laws_FnExactAddClue.T5 : Bool × List (List Nat × List Nat) := (true, [([], []), ([0], [0]), ([], []), ([2, 1], [2]), ([1, 3, 3], [1, 3]), ([4], [4]), ([5], [5]), ([5], [5]), ([], []), ([8, 6, 4, 0, 1, 2, 3, 4, 5, 6, 8], [6, 8]), ([7, 9, 0, 1, 2, 3, 4, 5, 6, 7, 8, 9], [7])])
def laws_FnExactAddClue.B5 : List Nat := [0, 1, 0, 7, 15, 31, 63, 63, 0, 383, 1023]
theorem laws_FnExactAddClue.tab5 : rtab .any (opsOf Try.f4 5) = laws_FnExactAddClue.T5 := by kernel_rfl
theorem laws_FnExactAddClue.bits5 : waitsOk laws_FnExactAddClue.T5.2 laws_FnExactAddClue.B5 = true := by kernel_rfl
def laws_FnExactAddClue.T7 : Bool × List (List Nat × List Nat) := (true, [([], []), ([], []), ([1], [1]), ([0, 2, 2], [0, 2]), ([3], [3]), ([4], [4]), ([4], [4]), ([], []), ([7, 5, 3, 0, 1, 2, 3, 4, 5, 7], [5, 7]), ([6, 8, 0, 1, 2, 3, 4, 5, 6, 7, 8], [6])])
def laws_FnExactAddClue.B7 : List Nat := [0, 0, 2, 7, 15, 31, 31, 0, 191, 511]
theorem laws_FnExactAddClue.tab7 : rtab .any (opsOf Try.f4 7) = laws_FnExactAddClue.T7 := by kernel_rfl
theorem laws_FnExactAddClue.bits7 : waitsOk laws_FnExactAddClue.T7.2 laws_FnExactAddClue.B7 = true := by kernel_rfl
def laws_FnExactAddClue.T24 : Bool × List (List Nat × List Nat) := (true, [([], []), ([0], [0]), ([], []), ([2, 1], [2]), ([1, 3, 3], [1, 3]), ([4], [4]), ([5], [5]), ([5], [5]), ([], []), ([8, 6, 4, 0, 1, 2, 3, 4, 5, 6, 8], [6, 8]), ([7, 9, 0, 1, 2, 3, 4, 5, 6, 7, 8, 9], [7])])
def laws_FnExactAddClue.B24 : List Nat := [0, 1, 0, 7, 15, 31, 63, 63, 0, 383, 1023]
theorem laws_FnExactAddClue.tab24 : rtab .any (opsOf Try.f4 24) = laws_FnExactAddClue.T24 := by kernel_rfl
theorem laws_FnExactAddClue.bits24 : waitsOk laws_FnExactAddClue.T24.2 laws_FnExactAddClue.B24 = true := by kernel_rfl
set_option maxHeartbeats 8000000 in
set_option maxRecDepth 100000 in
theorem laws_FnExactAddClue.calls (k : Nat) (a0_0 : Int) (A0_1 : Option Addr) (c0_1 : Nat) (l0_1 : List (S34)) (a1_0 : Int) (a1_1 : Int) (a1_2 : Int) (a1_3 : Int) (r : Bool) (w : World) (hr0_1 : Kd.C k34 w A0_1 l0_1.length l0_1) (hc0_1 : l0_1.length ≤ c0_1) (hrt : r = true) (h : laws_FnExactAddClue.f k a0_0 l0_1 a1_0 a1_1 a1_2 a1_3 = some r) :
  Calls Try.prog 4 #[.agg #[.int .i64 a0_0, .slice A0_1 l0_1.length c0_1], .agg #[.int .i64 a1_0, .int .i64 a1_1, .int .i64 a1_2, .int .i64 a1_3]] w fun e w' => e = .returned (.bool r) ∧ Below w.heap.size w w' := by
 have hu24 := Try.underlying24
 have hu34 := Try.underlying34
 have hu29 := Try.underlying29
 have HR0_1 := Aside0.mk hr0_1
 have HC0_1 := Aside0.mk hc0_1
 clear hr0_1 hc0_1
 have HB := Aside0.mk (Below.refl w.heap.size w)
 have HRT := Aside0.mk hrt
 clear hrt
 unfold laws_FnExactAddClue.f at h
 have H := h
 clear h
 replace H := Option.bind_eq_some_iff.mp H
 obtain ⟨t201, A30, H⟩ := H
 (try dsimp only at H)
 have A3 := Aside0.mk A30
 clear A30
 by_cases c4 : t201 < 0
 ·rw [if_pos c4] at H
  have c4b0 : decide (t201 < 0) = true := decide_eq_true c4
  clear c4
  obtain rfl := Option.some.inj H
  go_enter Try.func4, Try.ntmps4
  go_wp2_with (first | ((with_reducible refine gate_dst (N := 2) rfl ?_); refine bx 2 24 #[.int .i64 a0_0, .slice A0_1 l0_1.length c0_1] ?_; intro gb199 hg w5 hbox hb; have BK199 := hbox; have GW199 := gs hg; have GE199 := gs hg; replace HB := bs hb; clear hb hbox hg) | ((with_reducible refine gate_dst (N := 3) rfl ?_); refine bx 3 34 #[.int .i64 a1_0, .int .i64 a1_1, .int .i64 a1_2, .int .i64 a1_3] ?_; intro gb200 hg w6 hbox hb; have BK200 := hbox; have GW200 := gs hg; have GE200 := gs hg; replace HB := bs hb; have NB199_200 := nl BK199 hg; have NB200_199 := ng BK199 hg; replace BK199 := nk BK199 hb; clear hb hbox hg; have hnb7 := NB199_200.out; have hnc7 := NB200_199.out; have hcz8_0 := bc BK199 0 (.int .i64 a0_0); have hcz8_1 := bc BK199 1 (.slice A0_1 l0_1.length c0_1); have hfz8_0 := blk_frozen BK199.out 0; have hfz8_1 := blk_frozen BK199.out 1) | ((with_reducible refine gate_callee (f := 6) rfl ?_); refine gl (some 18) Try.func6 #[.agg #[.int .i64 a0_0, .slice A0_1 l0_1.length c0_1], .int .i64 1048576] ?_; (with_reducible refine (laws_szPuzzle.calls a0_0 _ _ l0_1 1048576 t201 _ ?side1 ?side2 A3.out).mono ?_); (case side1 => repeat (first | exact (Kd.C_below HR0_1.out HB.out) | (with_reducible refine Kd.C_alloc ?_ _) | (with_reducible refine Kd.C_drewN ?_ _) | (with_reducible refine Kd.C_drew ?_))); (case side2 => exact HC0_1.out); rintro e w9 ⟨rfl, hb⟩; refine ⟨_, rfl, ?_⟩; replace BK199 := nk BK199 hb; replace BK200 := nk BK200 hb; replace HB := bs hb; (try clear hb)))
  go_ret
  exact ⟨rs, bw⟩
 ·rw [if_neg c4] at H
  have c4b0 : decide (t201 < 0) = false := decide_eq_false c4
  clear c4
  replace H := Option.bind_eq_some_iff.mp H
  obtain ⟨⟨t202, t203⟩, A100, H⟩ := H
  (try dsimp only at H)
  have A10 := Aside0.mk A100
  clear A100
  replace H := Option.bind_eq_some_iff.mp H
  obtain ⟨⟨t206, t207, t208, t209⟩, A110, H⟩ := H
  (try dsimp only at H)
  have A11 := Aside0.mk A110
  clear A110
  replace H := Option.bind_eq_some_iff.mp H
  obtain ⟨⟨t210, t211, t214⟩, A120, H⟩ := H
  (try dsimp only at H)
  have A12 := Aside0.mk A120
  clear A120
  replace H := Option.bind_eq_some_iff.mp H
  obtain ⟨⟨t216, t217⟩, A130, H⟩ := H
  (try dsimp only at H)
  have A13 := Aside0.mk A130
  clear A130
  replace H := Option.bind_eq_some_iff.mp H
  obtain ⟨⟨t221, t222, t223, t224⟩, A140, H⟩ := H
  (try dsimp only at H)
  have A14 := Aside0.mk A140
  clear A140
  replace H := Option.bind_eq_some_iff.mp H
  obtain ⟨⟨t225, t226, t229⟩, A150, H⟩ := H
  (try dsimp only at H)
  have A15 := Aside0.mk A150
  clear A150
  have HC16 := Aside0.mk H
  clear H
  go_enter Try.func4, Try.ntmps4
  try go_wp2_with (first | ((with_reducible refine gate_dst (N := 2) rfl ?_); refine bx 2 24 #[.int .i64 a0_0, .slice A0_1 l0_1.length c0_1] ?_; intro gb199 hg w17 hbox hb; have BK199 := hbox; have GW199 := gs hg; have GE199 := gs hg; replace HB := bs hb; clear hb hbox hg) | ((with_reducible refine gate_dst (N := 3) rfl ?_); refine bx 3 34 #[.int .i64 a1_0, .int .i64 a1_1, .int .i64 a1_2, .int .i64 a1_3] ?_; intro gb200 hg w18 hbox hb; have BK200 := hbox; have GW200 := gs hg; have GE200 := gs hg; replace HB := bs hb; have NB199_200 := nl BK199 hg; have NB200_199 := ng BK199 hg; replace BK199 := nk BK199 hb; clear hb hbox hg; have hnb19 := NB199_200.out; have hnc19 := NB200_199.out; have hcz20_0 := bc BK199 0 (.int .i64 a0_0); have hcz20_1 := bc BK199 1 (.slice A0_1 l0_1.length c0_1); have hfz20_0 := blk_frozen BK199.out 0; have hfz20_1 := blk_frozen BK199.out 1) | ((with_reducible refine gate_callee (f := 6) rfl ?_); refine gl (some 18) Try.func6 #[.agg #[.int .i64 a0_0, .slice A0_1 l0_1.length c0_1], .int .i64 1048576] ?_; (with_reducible refine (laws_szPuzzle.calls a0_0 _ _ l0_1 1048576 t201 _ ?side1 ?side2 A3.out).mono ?_); (case side1 => repeat (first | exact (Kd.C_below HR0_1.out HB.out) | (with_reducible refine Kd.C_alloc ?_ _) | (with_reducible refine Kd.C_drewN ?_ _) | (with_reducible refine Kd.C_drew ?_))); (case side2 => exact HC0_1.out); rintro e w21 ⟨rfl, hb⟩; refine ⟨_, rfl, ?_⟩; replace BK199 := nk BK199 hb; replace BK200 := nk BK200 hb; replace HB := bs hb; (try clear hb)))
  replace BK199 := Aside0.mk (blk_drew BK199.out)
  replace BK200 := Aside0.mk (blk_drew BK200.out)
  replace HB := Aside0.mk (below_drew1 HB.out)
  refine start_ (n := 11) (S := fun w' => w'.cell? ⟨gb199, 0, none⟩ = some (.int .i64 a0_0) ∧ w'.cell? ⟨gb199, 1, none⟩ = some (.slice A0_1 l0_1.length c0_1) ∧ w'.cell? ⟨gb200, 0, none⟩ = some (.int .i64 a1_0) ∧ w'.cell? ⟨gb200, 1, none⟩ = some (.int .i64 a1_1) ∧ w'.cell? ⟨gb200, 2, none⟩ = some (.int .i64 a1_2) ∧ w'.cell? ⟨gb200, 3, none⟩ = some (.int .i64 a1_3)) (ds := []) #[false, false, false, false, false, false, false, false, false, false, false] (by kernel_rfl) rfl rfl ⟨ec BK199, ec BK199, ec BK200, ec BK200, ec BK200, ec BK200⟩ (fun hHeld => ?_); refine with_tabW laws_FnExactAddClue.tab5 laws_FnExactAddClue.bits5 (fun HT_ HW_ => ?_)
  generalize w21.drew = w22 at BK199 BK200 HB hHeld ⊢
  refine take_ (i := 0) (N := some 22) (v := ?_) (a' := ?_) #[true, false, false, false, false, false, false, false, false, false, false] rfl rfl (take_ofW HT_.out HW_.out (by kernel_rfl)) (fun _ _ _ h => h) (Or.inl ⟨by rfl, ?_⟩) hHeld ?_ ?_
  rotate_left
  ·rintro w' ⟨s0, s1, s2, s3, s4, s5⟩
   go_simp
   with_reducible rfl
  rotate_left
  ·simp only [Act.put, List.setIfInBounds_toArray, List.set_cons_zero, List.set_cons_succ, i64_w, i32_w]
   rfl
  refine take_ (i := 2) (N := some 24) (v := ?_) (a' := ?_) #[true, false, true, false, false, false, false, false, false, false, false] rfl rfl (take_ofW HT_.out HW_.out (by kernel_rfl)) (fun _ _ _ h => h) (Or.inl ⟨by rfl, ?_⟩) hHeld ?_ ?_
  rotate_left
  ·rintro w' ⟨s0, s1, s2, s3, s4, s5⟩
   go_simp
   with_reducible rfl
  rotate_left
  ·simp only [Act.put, List.setIfInBounds_toArray, List.set_cons_zero, List.set_cons_succ, i64_w, i32_w]
   rfl
  refine join_ (σ := Value × Value × Nat) 2 #[true, true, true, true, true, true, true, true, true, false, false] (fun s_ => [(23, .agg #[.int .i64 t202, s_.1]), (25, .agg #[.int .i64 t206, .int .i64 t207, .int .i64 t208, .int .i64 t209]), (26, .tuple #[.agg #[.int .i64 t210, s_.2.1], .bool t214]), (6, .pointer (some ⟨s_.2.2, 0, none⟩)), (21, .tuple #[.agg #[.int .i64 t210, s_.2.1], .bool t214]), (27, .agg #[.int .i64 t210, s_.2.1]), (28, .bool t214)]) (fun s_ w' => (w'.cell? ⟨gb199, 0, none⟩ = some (.int .i64 a0_0) ∧ w'.cell? ⟨gb199, 1, none⟩ = some (.slice A0_1 l0_1.length c0_1) ∧ w'.cell? ⟨gb200, 0, none⟩ = some (.int .i64 a1_0) ∧ w'.cell? ⟨gb200, 1, none⟩ = some (.int .i64 a1_1) ∧ w'.cell? ⟨gb200, 2, none⟩ = some (.int .i64 a1_2) ∧ w'.cell? ⟨gb200, 3, none⟩ = some (.int .i64 a1_3)) ∧ (Kd.R k37 37 w' w.heap.size (fun k_ => some k_ ≠ (s_.2.1 : Value).ownBlock) s_.1 t203) ∧ (Kd.R k37 37 w' w.heap.size (fun k_ => some k_ ≠ (s_.1 : Value).ownBlock) s_.2.1 t211) ∧ (w'.heap[gb199]? = some (.cells #[.int .i64 a0_0, .slice A0_1 l0_1.length c0_1] 24 (0, 0))) ∧ (w'.heap[gb200]? = some (.cells #[.int .i64 a1_0, .int .i64 a1_1, .int .i64 a1_2, .int .i64 a1_3] 34 (0, 0))) ∧ (w'.heap[s_.2.2]? = some (.cells #[.int .i64 0, .slice none 0 0] 29 (0, 0))) ∧ (w.heap.size ≤ s_.2.2) ∧ (w.heap.size ≤ s_.2.2) ∧ (gb199 ≠ s_.2.2) ∧ (s_.2.2 ≠ gb199) ∧ (gb200 ≠ s_.2.2) ∧ (s_.2.2 ≠ gb200) ∧ (Below w.heap.size w w')) ?_ ?_
  rotate_left
  ·intro hCont
   refine two_ (i := 1) (j := 8) (Ni := some 23) (Nj := some 6) #[true, true, true, false, false, false, false, false, false, false, false] #[true, false, true, false, false, false, false, false, true, false, false] rfl rfl rfl rfl (two_of HT_.out (by kernel_rfl)) (by decide) (by decide) (fun K hK => ?_) (fun K hK => ?_)
   ·skip
    refine goes_ Try.func8 (by kernel_rfl) rfl #[.agg #[.int .i64 a0_0, .slice A0_1 l0_1.length c0_1]] (by rfl) rfl rfl (by (try simp only [List.map_toArray, List.map_cons, List.map_nil]); first | done | rfl | (simp only [List.length_drop, List.length_take]; rfl)) ?_
    with_reducible refine (laws_toPuzzle.calls k a0_0 _ _ l0_1 t202 t203 _ ?side1 ?side2 A10.out).mono ?_
    (case side1 => repeat (first | exact (Kd.C_below HR0_1.out HB.out) | (with_reducible refine Kd.C_alloc ?_ _) | (with_reducible refine Kd.C_drewN ?_ _) | (with_reducible refine Kd.C_drew ?_)))
    (case side2 => exact HC0_1.out)
    rintro e w23 ⟨v204, rfl, ho0, hb⟩
    refine ⟨_, rfl, ?_⟩
    have HO205 := Aside0.mk (Kd.R_lower ho0 (below_size bw))
    replace BK199 := nk BK199 hb
    replace BK200 := nk BK200 hb
    replace HB := bs hb
    (try clear hb)
    (try clear ho0)
    refine hK.out _ _ ⟨ec BK199, ec BK199, ec BK200, ec BK200, ec BK200, ec BK200⟩ (fun hHeld => ?_)
    clear hK K
    refine nm (some 23) ?_
    refine two_ (i := 3) (j := 8) (Ni := some 25) (Nj := some 6) #[true, true, true, true, false, false, false, false, false, false, false] #[true, true, true, false, false, false, false, false, true, false, false] rfl rfl rfl rfl (two_of HT_.out (by kernel_rfl)) (by decide) (by decide) (fun K hK => ?_) (fun K hK => ?_)
    ·skip
     refine goes_ Try.func12 (by kernel_rfl) rfl #[.agg #[.int .i64 a1_0, .int .i64 a1_1, .int .i64 a1_2, .int .i64 a1_3]] (by rfl) rfl rfl (by (try simp only [List.map_toArray, List.map_cons, List.map_nil]); first | done | rfl | (simp only [List.length_drop, List.length_take]; rfl)) ?_
     with_reducible refine (laws_toClue.calls a1_0 a1_1 a1_2 a1_3 t206 t207 t208 t209 _ A11.out).mono ?_
     rintro e w24 ⟨rfl, hb⟩
     refine ⟨_, rfl, ?_⟩
     replace HO205 := Aside0.mk (Kd.R_below (pr HO205) hb)
     replace BK199 := nk BK199 hb
     replace BK200 := nk BK200 hb
     replace HB := bs hb
     (try clear hb)
     obtain ⟨Ao25, co25, eo25⟩ := Kd.R_slice HO205.out
     (first | subst eo25 | (injection eo25 with f1_ f2_ f3_; have f4_ := f1_.symm; have f5_ := f3_.symm; clear f1_ f2_ f3_; subst f4_; subst f5_))
     refine hK.out _ _ ⟨ec BK199, ec BK199, ec BK200, ec BK200, ec BK200, ec BK200⟩ (fun hHeld => ?_)
     clear hK K
     refine nm (some 25) ?_
     refine two_ (i := 4) (j := 8) (Ni := some 26) (Nj := some 6) #[true, true, true, true, true, false, false, false, false, false, false] #[true, true, true, true, false, false, false, false, true, false, false] rfl rfl rfl rfl (two_of HT_.out (by kernel_rfl)) (by decide) (by decide) (fun K hK => ?_) (fun K hK => ?_)
     ·skip
      refine goes_ Try.func11 (by kernel_rfl) rfl #[.agg #[.int .i64 t202, .slice Ao25 t203.length co25], .agg #[.int .i64 t206, .int .i64 t207, .int .i64 t208, .int .i64 t209]] (by rfl) rfl rfl (by (try simp only [List.map_toArray, List.map_cons, List.map_nil]); first | done | rfl | (simp only [List.length_drop, List.length_take]; rfl)) ?_
      with_reducible refine (spec_AddClue.calls k t202 _ _ t203 t206 t207 t208 t209 t210 t211 t214 _ ?side1 ?side2 A12.out).mono ?_
      (case side1 => repeat (first | exact (Kd.R_reads' HO205.out).2.2 | (with_reducible refine Kd.C_alloc ?_ _) | (with_reducible refine Kd.C_drewN ?_ _) | (with_reducible refine Kd.C_drew ?_)))
      (case side2 => exact (Kd.R_reads' HO205.out).2.1)
      rintro e w26 ⟨v212, rfl, ho0, hb⟩
      refine ⟨_, rfl, ?_⟩
      have HO213 := Aside0.mk (Kd.R_lower (Kd.R_new' ho0 (Kd.R_lt (pr HO205))) (below_size bw))
      replace HO205 := Aside0.mk (Kd.R_elder' (pr HO205) (Kd.R_base ho0) hb)
      replace BK199 := nk BK199 hb
      replace BK200 := nk BK200 hb
      replace HB := bs hb
      (try clear hb)
      (try clear ho0)
      refine hK.out _ _ ⟨ec BK199, ec BK199, ec BK200, ec BK200, ec BK200, ec BK200⟩ (fun hHeld => ?_)
      clear hK K
      refine nm (some 26) ?_
      refine pu 5 (some 21) #[true, true, true, true, true, true, false, false, false, false, false] ?_
      refine pu 6 (some 27) #[true, true, true, true, true, true, true, false, false, false, false] ?_
      refine pu 7 (some 28) #[true, true, true, true, true, true, true, true, false, false, false] ?_
      refine one_ (i := 8) (N := some 6) #[true, true, true, true, true, true, true, true, true, false, false] rfl rfl (one_of HT_.out (by kernel_rfl)) (by decide) (fun K hK => ?_)
      refine box_step ?hg (N := 6) ?hd (cs := #[.int .i64 0, .slice none 0 0]) (t := 29) ?hr ?_; (case hd => rfl); (case hg => rfl); (case hr => first | (go_simp; done) | (go_simp; rfl))
      intro gb215 hg w27 hbox hb
      replace HO205 := Aside0.mk (Kd.R_below (pr HO205) hb)
      replace HO213 := Aside0.mk (Kd.R_below (pr HO213) hb)
      have BK215 := Aside0.mk (hbox)
      have GW215 := gs hg
      have GE215 := gs hg
      replace HB := bs hb
      have NB199_215 := nl BK199 hg
      have NB215_199 := ng BK199 hg
      replace BK199 := nk BK199 hb
      have NB200_215 := nl BK200 hg
      have NB215_200 := ng BK200 hg
      replace BK200 := nk BK200 hb
      clear hb hbox hg
      refine hK.out _ _ ⟨ec BK199, ec BK199, ec BK200, ec BK200, ec BK200, ec BK200⟩ (fun hHeld => ?_)
      clear hK K
      refine nm (some 6) ?_
      exact norm_ (by simp only [putAll, Act.put, List.setIfInBounds_toArray, List.set_cons_zero, List.set_cons_succ]) (hCont (.slice Ao25 t203.length co25, v212, gb215) _ ⟨hHeld, (by (with_reducible repeat (first | apply Kd.R_alloc | apply Kd.R_drewN | apply Kd.R_drew)); exact Kd.R_mono HO205.out (fun _ hk => hk.2)), (by (with_reducible repeat (first | apply Kd.R_alloc | apply Kd.R_drewN | apply Kd.R_drew)); exact Kd.R_mono HO213.out (fun _ hk => hk.2)), (pk BK199), (pk BK200), (pk BK215), GW215.out, GE215.out, NB199_215.out, NB215_199.out, NB200_215.out, NB215_200.out, bw⟩)
     ·skip
      refine box_step ?hg (N := 6) ?hd (cs := #[.int .i64 0, .slice none 0 0]) (t := 29) ?hr ?_; (case hd => rfl); (case hg => rfl); (case hr => first | (go_simp; done) | (go_simp; rfl))
      intro gb215 hg w25 hbox hb
      replace HO205 := Aside0.mk (Kd.R_below (pr HO205) hb)
      have BK215 := Aside0.mk (hbox)
      have GW215 := gs hg
      have GE215 := gs hg
      replace HB := bs hb
      have NB199_215 := nl BK199 hg
      have NB215_199 := ng BK199 hg
      replace BK199 := nk BK199 hb
      have NB200_215 := nl BK200 hg
      have NB215_200 := ng BK200 hg
      replace BK200 := nk BK200 hb
      clear hb hbox hg
      obtain ⟨Ao26, co26, eo26⟩ := Kd.R_slice HO205.out
      (first | subst eo26 | (injection eo26 with f1_ f2_ f3_; have f4_ := f1_.symm; have f5_ := f3_.symm; clear f1_ f2_ f3_; subst f4_; subst f5_))
      refine hK.out _ _ ⟨ec BK199, ec BK199, ec BK200, ec BK200, ec BK200, ec BK200⟩ (fun hHeld => ?_)
      clear hK K
      refine nm (some 6) ?_
      refine one_ (i := 4) (N := some 26) #[true, true, true, true, true, false, false, false, true, false, false] rfl rfl (one_of HT_.out (by kernel_rfl)) (by decide) (fun K hK => ?_)
      refine goes_ Try.func11 (by kernel_rfl) rfl #[.agg #[.int .i64 t202, .slice Ao26 t203.length co26], .agg #[.int .i64 t206, .int .i64 t207, .int .i64 t208, .int .i64 t209]] (by rfl) rfl rfl (by (try simp only [List.map_toArray, List.map_cons, List.map_nil]); first | done | rfl | (simp only [List.length_drop, List.length_take]; rfl)) ?_
      with_reducible refine (spec_AddClue.calls k t202 _ _ t203 t206 t207 t208 t209 t210 t211 t214 _ ?side1 ?side2 A12.out).mono ?_
      (case side1 => repeat (first | exact (Kd.R_reads' HO205.out).2.2 | (with_reducible refine Kd.C_alloc ?_ _) | (with_reducible refine Kd.C_drewN ?_ _) | (with_reducible refine Kd.C_drew ?_)))
      (case side2 => exact (Kd.R_reads' HO205.out).2.1)
      rintro e w27 ⟨v212, rfl, ho0, hb⟩
      refine ⟨_, rfl, ?_⟩
      have HO213 := Aside0.mk (Kd.R_lower (Kd.R_new' ho0 (Kd.R_lt (pr HO205))) (below_size bw))
      replace HO205 := Aside0.mk (Kd.R_elder' (pr HO205) (Kd.R_base ho0) hb)
      replace BK199 := nk BK199 hb
      replace BK200 := nk BK200 hb
      replace BK215 := nk BK215 hb
      replace HB := bs hb
      (try clear hb)
      (try clear ho0)
      refine hK.out _ _ ⟨ec BK199, ec BK199, ec BK200, ec BK200, ec BK200, ec BK200⟩ (fun hHeld => ?_)
      clear hK K
      refine nm (some 26) ?_
      refine pu 5 (some 21) #[true, true, true, true, true, true, false, false, true, false, false] ?_
      refine pu 6 (some 27) #[true, true, true, true, true, true, true, false, true, false, false] ?_
      refine pu 7 (some 28) #[true, true, true, true, true, true, true, true, true, false, false] ?_
      exact norm_ (by simp only [putAll, Act.put, List.setIfInBounds_toArray, List.set_cons_zero, List.set_cons_succ]) (hCont (.slice Ao26 t203.length co26, v212, gb215) _ ⟨hHeld, (by (with_reducible repeat (first | apply Kd.R_alloc | apply Kd.R_drewN | apply Kd.R_drew)); exact Kd.R_mono HO205.out (fun _ hk => hk.2)), (by (with_reducible repeat (first | apply Kd.R_alloc | apply Kd.R_drewN | apply Kd.R_drew)); exact Kd.R_mono HO213.out (fun _ hk => hk.2)), (pk BK199), (pk BK200), (pk BK215), GW215.out, GE215.out, NB199_215.out, NB215_199.out, NB200_215.out, NB215_200.out, bw⟩)
    ·skip
     refine box_step ?hg (N := 6) ?hd (cs := #[.int .i64 0, .slice none 0 0]) (t := 29) ?hr ?_; (case hd => rfl); (case hg => rfl); (case hr => first | (go_simp; done) | (go_simp; rfl))
     intro gb215 hg w24 hbox hb
     replace HO205 := Aside0.mk (Kd.R_below (pr HO205) hb)
     have BK215 := Aside0.mk (hbox)
     have GW215 := gs hg
     have GE215 := gs hg
     replace HB := bs hb
     have NB199_215 := nl BK199 hg
     have NB215_199 := ng BK199 hg
     replace BK199 := nk BK199 hb
     have NB200_215 := nl BK200 hg
     have NB215_200 := ng BK200 hg
     replace BK200 := nk BK200 hb
     clear hb hbox hg
     refine hK.out _ _ ⟨ec BK199, ec BK199, ec BK200, ec BK200, ec BK200, ec BK200⟩ (fun hHeld => ?_)
     clear hK K
     refine nm (some 6) ?_
     refine one_ (i := 3) (N := some 25) #[true, true, true, true, false, false, false, false, true, false, false] rfl rfl (one_of HT_.out (by kernel_rfl)) (by decide) (fun K hK => ?_)
     refine goes_ Try.func12 (by kernel_rfl) rfl #[.agg #[.int .i64 a1_0, .int .i64 a1_1, .int .i64 a1_2, .int .i64 a1_3]] (by rfl) rfl rfl (by (try simp only [List.map_toArray, List.map_cons, List.map_nil]); first | done | rfl | (simp only [List.length_drop, List.length_take]; rfl)) ?_
     with_reducible refine (laws_toClue.calls a1_0 a1_1 a1_2 a1_3 t206 t207 t208 t209 _ A11.out).mono ?_
     rintro e w25 ⟨rfl, hb⟩
     refine ⟨_, rfl, ?_⟩
     replace HO205 := Aside0.mk (Kd.R_below (pr HO205) hb)
     replace BK199 := nk BK199 hb
     replace BK200 := nk BK200 hb
     replace BK215 := nk BK215 hb
     replace HB := bs hb
     (try clear hb)
     obtain ⟨Ao26, co26, eo26⟩ := Kd.R_slice HO205.out
     (first | subst eo26 | (injection eo26 with f1_ f2_ f3_; have f4_ := f1_.symm; have f5_ := f3_.symm; clear f1_ f2_ f3_; subst f4_; subst f5_))
     refine hK.out _ _ ⟨ec BK199, ec BK199, ec BK200, ec BK200, ec BK200, ec BK200⟩ (fun hHeld => ?_)
     clear hK K
     refine nm (some 25) ?_
     refine one_ (i := 4) (N := some 26) #[true, true, true, true, true, false, false, false, true, false, false] rfl rfl (one_of HT_.out (by kernel_rfl)) (by decide) (fun K hK => ?_)
     refine goes_ Try.func11 (by kernel_rfl) rfl #[.agg #[.int .i64 t202, .slice Ao26 t203.length co26], .agg #[.int .i64 t206, .int .i64 t207, .int .i64 t208, .int .i64 t209]] (by rfl) rfl rfl (by (try simp only [List.map_toArray, List.map_cons, List.map_nil]); first | done | rfl | (simp only [List.length_drop, List.length_take]; rfl)) ?_
     with_reducible refine (spec_AddClue.calls k t202 _ _ t203 t206 t207 t208 t209 t210 t211 t214 _ ?side1 ?side2 A12.out).mono ?_
     (case side1 => repeat (first | exact (Kd.R_reads' HO205.out).2.2 | (with_reducible refine Kd.C_alloc ?_ _) | (with_reducible refine Kd.C_drewN ?_ _) | (with_reducible refine Kd.C_drew ?_)))
     (case side2 => exact (Kd.R_reads' HO205.out).2.1)
     rintro e w27 ⟨v212, rfl, ho0, hb⟩
     refine ⟨_, rfl, ?_⟩
     have HO213 := Aside0.mk (Kd.R_lower (Kd.R_new' ho0 (Kd.R_lt (pr HO205))) (below_size bw))
     replace HO205 := Aside0.mk (Kd.R_elder' (pr HO205) (Kd.R_base ho0) hb)
     replace BK199 := nk BK199 hb
     replace BK200 := nk BK200 hb
     replace BK215 := nk BK215 hb
     replace HB := bs hb
     (try clear hb)
     (try clear ho0)
     refine hK.out _ _ ⟨ec BK199, ec BK199, ec BK200, ec BK200, ec BK200, ec BK200⟩ (fun hHeld => ?_)
     clear hK K
     refine nm (some 26) ?_
     refine pu 5 (some 21) #[true, true, true, true, true, true, false, false, true, false, false] ?_
     refine pu 6 (some 27) #[true, true, true, true, true, true, true, false, true, false, false] ?_
     refine pu 7 (some 28) #[true, true, true, true, true, true, true, true, true, false, false] ?_
     exact norm_ (by simp only [putAll, Act.put, List.setIfInBounds_toArray, List.set_cons_zero, List.set_cons_succ]) (hCont (.slice Ao26 t203.length co26, v212, gb215) _ ⟨hHeld, (by (with_reducible repeat (first | apply Kd.R_alloc | apply Kd.R_drewN | apply Kd.R_drew)); exact Kd.R_mono HO205.out (fun _ hk => hk.2)), (by (with_reducible repeat (first | apply Kd.R_alloc | apply Kd.R_drewN | apply Kd.R_drew)); exact Kd.R_mono HO213.out (fun _ hk => hk.2)), (pk BK199), (pk BK200), (pk BK215), GW215.out, GE215.out, NB199_215.out, NB215_199.out, NB200_215.out, NB215_200.out, bw⟩)
   ·skip
    refine box_step ?hg (N := 6) ?hd (cs := #[.int .i64 0, .slice none 0 0]) (t := 29) ?hr ?_; (case hd => rfl); (case hg => rfl); (case hr => first | (go_simp; done) | (go_simp; rfl))
    intro gb215 hg w23 hbox hb
    have BK215 := Aside0.mk (hbox)
    have GW215 := gs hg
    have GE215 := gs hg
    replace HB := bs hb
    have NB199_215 := nl BK199 hg
    have NB215_199 := ng BK199 hg
    replace BK199 := nk BK199 hb
    have NB200_215 := nl BK200 hg
    have NB215_200 := ng BK200 hg
    replace BK200 := nk BK200 hb
    clear hb hbox hg
    refine hK.out _ _ ⟨ec BK199, ec BK199, ec BK200, ec BK200, ec BK200, ec BK200⟩ (fun hHeld => ?_)
    clear hK K
    refine nm (some 6) ?_
    refine one_ (i := 1) (N := some 23) #[true, true, true, false, false, false, false, false, true, false, false] rfl rfl (one_of HT_.out (by kernel_rfl)) (by decide) (fun K hK => ?_)
    refine goes_ Try.func8 (by kernel_rfl) rfl #[.agg #[.int .i64 a0_0, .slice A0_1 l0_1.length c0_1]] (by rfl) rfl rfl (by (try simp only [List.map_toArray, List.map_cons, List.map_nil]); first | done | rfl | (simp only [List.length_drop, List.length_take]; rfl)) ?_
    with_reducible refine (laws_toPuzzle.calls k a0_0 _ _ l0_1 t202 t203 _ ?side1 ?side2 A10.out).mono ?_
    (case side1 => repeat (first | exact (Kd.C_below HR0_1.out HB.out) | (with_reducible refine Kd.C_alloc ?_ _) | (with_reducible refine Kd.C_drewN ?_ _) | (with_reducible refine Kd.C_drew ?_)))
    (case side2 => exact HC0_1.out)
    rintro e w24 ⟨v204, rfl, ho0, hb⟩
    refine ⟨_, rfl, ?_⟩
    have HO205 := Aside0.mk (Kd.R_lower ho0 (below_size bw))
    replace BK199 := nk BK199 hb
    replace BK200 := nk BK200 hb
    replace BK215 := nk BK215 hb
    replace HB := bs hb
    (try clear hb)
    (try clear ho0)
    refine hK.out _ _ ⟨ec BK199, ec BK199, ec BK200, ec BK200, ec BK200, ec BK200⟩ (fun hHeld => ?_)
    clear hK K
    refine nm (some 23) ?_
    refine one_ (i := 3) (N := some 25) #[true, true, true, true, false, false, false, false, true, false, false] rfl rfl (one_of HT_.out (by kernel_rfl)) (by decide) (fun K hK => ?_)
    refine goes_ Try.func12 (by kernel_rfl) rfl #[.agg #[.int .i64 a1_0, .int .i64 a1_1, .int .i64 a1_2, .int .i64 a1_3]] (by rfl) rfl rfl (by (try simp only [List.map_toArray, List.map_cons, List.map_nil]); first | done | rfl | (simp only [List.length_drop, List.length_take]; rfl)) ?_
    with_reducible refine (laws_toClue.calls a1_0 a1_1 a1_2 a1_3 t206 t207 t208 t209 _ A11.out).mono ?_
    rintro e w25 ⟨rfl, hb⟩
    refine ⟨_, rfl, ?_⟩
    replace HO205 := Aside0.mk (Kd.R_below (pr HO205) hb)
    replace BK199 := nk BK199 hb
    replace BK200 := nk BK200 hb
    replace BK215 := nk BK215 hb
    replace HB := bs hb
    (try clear hb)
    obtain ⟨Ao26, co26, eo26⟩ := Kd.R_slice HO205.out
    (first | subst eo26 | (injection eo26 with f1_ f2_ f3_; have f4_ := f1_.symm; have f5_ := f3_.symm; clear f1_ f2_ f3_; subst f4_; subst f5_))
    refine hK.out _ _ ⟨ec BK199, ec BK199, ec BK200, ec BK200, ec BK200, ec BK200⟩ (fun hHeld => ?_)
    clear hK K
    refine nm (some 25) ?_
    refine one_ (i := 4) (N := some 26) #[true, true, true, true, true, false, false, false, true, false, false] rfl rfl (one_of HT_.out (by kernel_rfl)) (by decide) (fun K hK => ?_)
    refine goes_ Try.func11 (by kernel_rfl) rfl #[.agg #[.int .i64 t202, .slice Ao26 t203.length co26], .agg #[.int .i64 t206, .int .i64 t207, .int .i64 t208, .int .i64 t209]] (by rfl) rfl rfl (by (try simp only [List.map_toArray, List.map_cons, List.map_nil]); first | done | rfl | (simp only [List.length_drop, List.length_take]; rfl)) ?_
    with_reducible refine (spec_AddClue.calls k t202 _ _ t203 t206 t207 t208 t209 t210 t211 t214 _ ?side1 ?side2 A12.out).mono ?_
    (case side1 => repeat (first | exact (Kd.R_reads' HO205.out).2.2 | (with_reducible refine Kd.C_alloc ?_ _) | (with_reducible refine Kd.C_drewN ?_ _) | (with_reducible refine Kd.C_drew ?_)))
    (case side2 => exact (Kd.R_reads' HO205.out).2.1)
    rintro e w27 ⟨v212, rfl, ho0, hb⟩
    refine ⟨_, rfl, ?_⟩
    have HO213 := Aside0.mk (Kd.R_lower (Kd.R_new' ho0 (Kd.R_lt (pr HO205))) (below_size bw))
    replace HO205 := Aside0.mk (Kd.R_elder' (pr HO205) (Kd.R_base ho0) hb)
    replace BK199 := nk BK199 hb
    replace BK200 := nk BK200 hb
    replace BK215 := nk BK215 hb
    replace HB := bs hb
    (try clear hb)
    (try clear ho0)
    refine hK.out _ _ ⟨ec BK199, ec BK199, ec BK200, ec BK200, ec BK200, ec BK200⟩ (fun hHeld => ?_)
    clear hK K
    refine nm (some 26) ?_
    refine pu 5 (some 21) #[true, true, true, true, true, true, false, false, true, false, false] ?_
    refine pu 6 (some 27) #[true, true, true, true, true, true, true, false, true, false, false] ?_
    refine pu 7 (some 28) #[true, true, true, true, true, true, true, true, true, false, false] ?_
    exact norm_ (by simp only [putAll, Act.put, List.setIfInBounds_toArray, List.set_cons_zero, List.set_cons_succ]) (hCont (.slice Ao26 t203.length co26, v212, gb215) _ ⟨hHeld, (by (with_reducible repeat (first | apply Kd.R_alloc | apply Kd.R_drewN | apply Kd.R_drew)); exact Kd.R_mono HO205.out (fun _ hk => hk.2)), (by (with_reducible repeat (first | apply Kd.R_alloc | apply Kd.R_drewN | apply Kd.R_drew)); exact Kd.R_mono HO213.out (fun _ hk => hk.2)), (pk BK199), (pk BK200), (pk BK215), GW215.out, GE215.out, NB199_215.out, NB215_199.out, NB200_215.out, NB215_200.out, bw⟩)
  rintro ⟨v204, v212, gb215⟩ w28 ⟨hS_, h0_, h1_, h2_, h3_, h4_, h5_, h6_, h7_, h8_, h9_, h10_, h11_⟩
  have n0_ : Aside0 (Kd.R k37 37 w28 w.heap.size (fun k_ => some k_ ≠ (v212 : Value).ownBlock) v204 t203) := ⟨h0_⟩
  have n1_ : Aside0 (Kd.R k37 37 w28 w.heap.size (fun k_ => some k_ ≠ (v204 : Value).ownBlock) v212 t211) := ⟨h1_⟩
  have n2_ : Aside0 (w28.heap[gb199]? = some (.cells #[.int .i64 a0_0, .slice A0_1 l0_1.length c0_1] 24 (0, 0))) := ⟨h2_⟩
  have n3_ : Aside0 (w28.heap[gb200]? = some (.cells #[.int .i64 a1_0, .int .i64 a1_1, .int .i64 a1_2, .int .i64 a1_3] 34 (0, 0))) := ⟨h3_⟩
  have n4_ : Aside0 (w28.heap[gb215]? = some (.cells #[.int .i64 0, .slice none 0 0] 29 (0, 0))) := ⟨h4_⟩
  have n5_ : Aside0 (w.heap.size ≤ gb215) := ⟨h5_⟩
  have n6_ : Aside0 (w.heap.size ≤ gb215) := ⟨h6_⟩
  have n7_ : Aside0 (gb199 ≠ gb215) := ⟨h7_⟩
  have n8_ : Aside0 (gb215 ≠ gb199) := ⟨h8_⟩
  have n9_ : Aside0 (gb200 ≠ gb215) := ⟨h9_⟩
  have n10_ : Aside0 (gb215 ≠ gb200) := ⟨h10_⟩
  have n11_ : Aside0 (Below w.heap.size w w28) := ⟨h11_⟩
  clear BK199
  clear BK200
  clear HB
  clear h0_ h1_ h2_ h3_ h4_ h5_ h6_ h7_ h8_ h9_ h10_ h11_
  have HO205 := n0_
  have HO213 := n1_
  have BK199 := n2_
  have BK200 := n3_
  have BK215 := n4_
  have GW215 := n5_
  have GE215 := n6_
  have NB199_215 := n7_
  have NB215_199 := n8_
  have NB200_215 := n9_
  have NB215_200 := n10_
  have HB := n11_
  clear n0_ n1_ n2_ n3_ n4_ n5_ n6_ n7_ n8_ n9_ n10_ n11_
  have hHeld : w28.cell? ⟨gb199, 0, none⟩ = some (.int .i64 a0_0) ∧ w28.cell? ⟨gb199, 1, none⟩ = some (.slice A0_1 l0_1.length c0_1) ∧ w28.cell? ⟨gb200, 0, none⟩ = some (.int .i64 a1_0) ∧ w28.cell? ⟨gb200, 1, none⟩ = some (.int .i64 a1_1) ∧ w28.cell? ⟨gb200, 2, none⟩ = some (.int .i64 a1_2) ∧ w28.cell? ⟨gb200, 3, none⟩ = some (.int .i64 a1_3) := hS_
  obtain ⟨Ao30, co30, eo30⟩ := Kd.R_slice HO213.out
  (first | subst eo30 | (injection eo30 with f1_ f2_ f3_; have f4_ := f1_.symm; have f5_ := f3_.symm; clear f1_ f2_ f3_; subst f4_; subst f5_))
  refine norm_ (a' := ?_) ?_ ?_
  rotate_left
  ·simp only [putAll, Act.put, List.setIfInBounds_toArray, List.set_cons_zero, List.set_cons_succ]
   rfl
  refine one_ (i := 9) (N := none) #[true, true, true, true, true, true, true, true, true, true, false] rfl rfl (one_of HT_.out (by kernel_rfl)) (by decide) (fun K hK => ?_)
  have hs29 : w28.cell? ⟨gb215, 0, none⟩ = some (.int .i64 0) := ec BK215
  have hfs29 := blk_frozen BK215.out 0
  have hns29_0 := NB199_215.out
  have hns29_1 := NB200_215.out
  have hms29_0 := NB215_199.out
  have hms29_1 := NB215_200.out
  have hs31 : w28.cell? ⟨gb215, 1, none⟩ = some (.slice none 0 0) := ec BK215
  have hfs31 := blk_frozen BK215.out 1
  have hns31_0 := NB199_215.out
  have hns31_1 := NB200_215.out
  have hms31_0 := NB215_199.out
  have hms31_1 := NB215_200.out
  refine skip_ (w1 := ?_) (by rfl) rfl ?_ ?_
  rotate_left
  ·go_simp
   rfl
  refine hK.out _ _ ⟨((cell_far (p := ⟨gb215, _, none⟩) NB199_215.out _).trans (((cell_far (p := ⟨gb215, _, none⟩) NB199_215.out _).trans (hHeld.1)))), ((cell_far (p := ⟨gb215, _, none⟩) NB199_215.out _).trans (((cell_far (p := ⟨gb215, _, none⟩) NB199_215.out _).trans (hHeld.2.1)))), ((cell_far (p := ⟨gb215, _, none⟩) NB200_215.out _).trans (((cell_far (p := ⟨gb215, _, none⟩) NB200_215.out _).trans (hHeld.2.2.1)))), ((cell_far (p := ⟨gb215, _, none⟩) NB200_215.out _).trans (((cell_far (p := ⟨gb215, _, none⟩) NB200_215.out _).trans (hHeld.2.2.2.1)))), ((cell_far (p := ⟨gb215, _, none⟩) NB200_215.out _).trans (((cell_far (p := ⟨gb215, _, none⟩) NB200_215.out _).trans (hHeld.2.2.2.2.1)))), ((cell_far (p := ⟨gb215, _, none⟩) NB200_215.out _).trans (((cell_far (p := ⟨gb215, _, none⟩) NB200_215.out _).trans (hHeld.2.2.2.2.2))))⟩ (fun hHeld => ?_)
  clear hK K
  refine pu 10 (some 7) #[true, true, true, true, true, true, true, true, true, true, true] ?_
  refine done_ (done_of HT_.out (by kernel_rfl)) ?_
  have hnb32 := NB199_215.out
  have hnc32 := NB215_199.out
  have hcz33_0 := bc BK199 0 (.int .i64 a0_0)
  have hcz33_1 := bc BK199 1 (.slice A0_1 l0_1.length c0_1)
  have hfz33_0 := blk_frozen BK199.out 0
  have hfz33_1 := blk_frozen BK199.out 1
  try go_wp2_with (first | ((with_reducible refine gate_callee (f := 8) rfl ?_); refine gl (some 30) Try.func8 #[.agg #[.int .i64 a0_0, .slice A0_1 l0_1.length c0_1]] ?_; (with_reducible refine (laws_toPuzzle.calls k a0_0 _ _ l0_1 t216 t217 _ ?side1 ?side2 A13.out).mono ?_); (case side1 => exact Kd.C_below HR0_1.out bw); (case side2 => exact HC0_1.out); rintro e w34 ⟨v218, rfl, ho0, hb⟩; refine ⟨_, rfl, ?_⟩; have HO219 := Aside0.mk (Kd.R_lower (Kd.R_new' (Kd.R_new' ho0 (Kd.R_lt (by (with_reducible repeat (first | apply Kd.R_alloc | apply Kd.R_drewN | apply Kd.R_drew)); exact (Kd.R_mono (Kd.R_far (p := ⟨gb215, 1, none⟩) (Kd.R_far (p := ⟨gb215, 0, none⟩) (Kd.R_types HO205.out BK215.out (by decide)) (fun _ hk => hk.2) (.int .i64 t210)) (fun _ hk => hk.2) (.slice Ao30 t211.length co30)) (fun _ h_ => h_.1))))) (Kd.R_lt (by (with_reducible repeat (first | apply Kd.R_alloc | apply Kd.R_drewN | apply Kd.R_drew)); exact (Kd.R_mono (Kd.R_far (p := ⟨gb215, 1, none⟩) (Kd.R_far (p := ⟨gb215, 0, none⟩) (Kd.R_types HO213.out BK215.out (by decide)) (fun _ hk => hk.2) (.int .i64 t210)) (fun _ hk => hk.2) (.slice Ao30 t211.length co30)) (fun _ h_ => h_.1))))) (below_size bw)); replace HO205 := Aside0.mk (Kd.R_elder' (by (with_reducible repeat (first | apply Kd.R_alloc | apply Kd.R_drewN | apply Kd.R_drew)); exact (Kd.R_mono (Kd.R_far (p := ⟨gb215, 1, none⟩) (Kd.R_far (p := ⟨gb215, 0, none⟩) (Kd.R_types HO205.out BK215.out (by decide)) (fun _ hk => hk.2) (.int .i64 t210)) (fun _ hk => hk.2) (.slice Ao30 t211.length co30)) (fun _ h_ => h_.1))) (Kd.R_base ho0) hb); replace HO213 := Aside0.mk (Kd.R_elder' (by (with_reducible repeat (first | apply Kd.R_alloc | apply Kd.R_drewN | apply Kd.R_drew)); exact (Kd.R_mono (Kd.R_far (p := ⟨gb215, 1, none⟩) (Kd.R_far (p := ⟨gb215, 0, none⟩) (Kd.R_types HO213.out BK215.out (by decide)) (fun _ hk => hk.2) (.int .i64 t210)) (fun _ hk => hk.2) (.slice Ao30 t211.length co30)) (fun _ h_ => h_.1))) (Kd.R_base ho0) hb); replace BK199 := Aside0.mk (blk_below (g := gb199) (o := .cells #[.int .i64 a0_0, .slice A0_1 l0_1.length c0_1] 24 (0, 0)) (by (with_reducible repeat (first | refine blk_drewN ?_ _ | refine blk_drew ?_ | refine blk_alloc ?_ _)); refine blk_far ?_ NB199_215.out _; (with_reducible repeat (first | refine blk_drewN ?_ _ | refine blk_drew ?_ | refine blk_alloc ?_ _)); refine blk_far ?_ NB199_215.out _; (with_reducible repeat (first | refine blk_drewN ?_ _ | refine blk_drew ?_ | refine blk_alloc ?_ _)); exact BK199.out) hb); replace BK200 := Aside0.mk (blk_below (g := gb200) (o := .cells #[.int .i64 a1_0, .int .i64 a1_1, .int .i64 a1_2, .int .i64 a1_3] 34 (0, 0)) (by (with_reducible repeat (first | refine blk_drewN ?_ _ | refine blk_drew ?_ | refine blk_alloc ?_ _)); refine blk_far ?_ NB200_215.out _; (with_reducible repeat (first | refine blk_drewN ?_ _ | refine blk_drew ?_ | refine blk_alloc ?_ _)); refine blk_far ?_ NB200_215.out _; (with_reducible repeat (first | refine blk_drewN ?_ _ | refine blk_drew ?_ | refine blk_alloc ?_ _)); exact BK200.out) hb); replace BK215 := Aside0.mk (blk_below (g := gb215) (o := .cells #[.int .i64 t210, .slice Ao30 t211.length co30] 29 (0, 0)) (by (with_reducible repeat (first | refine blk_drewN ?_ _ | refine blk_drew ?_ | refine blk_alloc ?_ _)); refine blk_put (cs := #[.int .i64 t210, .slice none 0 0]) ?_ 1 _ rfl; (with_reducible repeat (first | refine blk_drewN ?_ _ | refine blk_drew ?_ | refine blk_alloc ?_ _)); refine blk_put (cs := #[.int .i64 0, .slice none 0 0]) ?_ 0 _ rfl; (with_reducible repeat (first | refine blk_drewN ?_ _ | refine blk_drew ?_ | refine blk_alloc ?_ _)); exact BK215.out) hb); replace HB := bs hb; (try clear hb); (try clear ho0)) | ((with_reducible refine gate_dst (N := 8) rfl ?_); refine bx 8 29 #[.int .i64 0, .slice none 0 0] ?_; intro gb220 hg w35 hbox hb; replace HO205 := Aside0.mk (Kd.R_below (pr HO205) hb); replace HO213 := Aside0.mk (Kd.R_below (pr HO213) hb); replace HO219 := Aside0.mk (Kd.R_below (pr HO219) hb); have BK220 := hbox; have GW220 := gs hg; have GE220 := gs hg; replace HB := bs hb; have NB199_220 := nl BK199 hg; have NB220_199 := ng BK199 hg; replace BK199 := nk BK199 hb; have NB200_220 := nl BK200 hg; have NB220_200 := ng BK200 hg; replace BK200 := nk BK200 hb; have NB215_220 := nl BK215 hg; have NB220_215 := ng BK215 hg; replace BK215 := nk BK215 hb; clear hb hbox hg; have hnb36 := NB220_199.out; have hnc36 := NB199_220.out; have hnb37 := NB220_200.out; have hnc37 := NB200_220.out; have hnb38 := NB220_215.out; have hnc38 := NB215_220.out; have hcz39_0 := bc BK220 0 (.int .i64 0); have hcz39_1 := bc BK220 1 (.slice none 0 0); have hfz39_0 := blk_frozen BK220.out 0; have hfz39_1 := blk_frozen BK220.out 1; obtain ⟨Ao40, co40, eo40⟩ := Kd.R_slice HO219.out; subst eo40))
  have n0_ : Aside0 (Kd.R k37 37 ((w35.setCell ⟨gb220, 0, none⟩ (.int .i64 t216)).setCell ⟨gb220, 1, none⟩ (.slice Ao40 t217.length co40)) w.heap.size (fun k_ => some k_ ≠ (.slice Ao30 t211.length co30 : Value).ownBlock ∧ some k_ ≠ (.slice Ao40 t217.length co40 : Value).ownBlock) v204 t203) := ⟨by (with_reducible repeat (first | apply Kd.R_alloc | apply Kd.R_drewN | apply Kd.R_drew)); exact Kd.R_mono (Kd.R_far (p := ⟨gb220, 1, none⟩) (Kd.R_far (p := ⟨gb220, 0, none⟩) (Kd.R_types HO205.out BK220.out (by decide)) (fun _ hk => hk.2) (.int .i64 t216)) (fun _ hk => hk.2) (.slice Ao40 t217.length co40)) (fun _ hk => ⟨hk.1.1, hk.1.2⟩)⟩
  have n1_ : Aside0 (Kd.R k37 37 ((w35.setCell ⟨gb220, 0, none⟩ (.int .i64 t216)).setCell ⟨gb220, 1, none⟩ (.slice Ao40 t217.length co40)) w.heap.size (fun k_ => some k_ ≠ (v204 : Value).ownBlock ∧ some k_ ≠ (.slice Ao40 t217.length co40 : Value).ownBlock) (.slice Ao30 t211.length co30) t211) := ⟨by (with_reducible repeat (first | apply Kd.R_alloc | apply Kd.R_drewN | apply Kd.R_drew)); exact Kd.R_mono (Kd.R_far (p := ⟨gb220, 1, none⟩) (Kd.R_far (p := ⟨gb220, 0, none⟩) (Kd.R_types HO213.out BK220.out (by decide)) (fun _ hk => hk.2) (.int .i64 t216)) (fun _ hk => hk.2) (.slice Ao40 t217.length co40)) (fun _ hk => ⟨hk.1.1, hk.1.2⟩)⟩
  have n2_ : Aside0 (Kd.R k37 37 ((w35.setCell ⟨gb220, 0, none⟩ (.int .i64 t216)).setCell ⟨gb220, 1, none⟩ (.slice Ao40 t217.length co40)) w.heap.size (fun k_ => some k_ ≠ (v204 : Value).ownBlock ∧ some k_ ≠ (.slice Ao30 t211.length co30 : Value).ownBlock) (.slice Ao40 t217.length co40) t217) := ⟨by (with_reducible repeat (first | apply Kd.R_alloc | apply Kd.R_drewN | apply Kd.R_drew)); exact Kd.R_mono (Kd.R_far (p := ⟨gb220, 1, none⟩) (Kd.R_far (p := ⟨gb220, 0, none⟩) (Kd.R_types HO219.out BK220.out (by decide)) (fun _ hk => hk.2) (.int .i64 t216)) (fun _ hk => hk.2) (.slice Ao40 t217.length co40)) (fun _ hk => ⟨hk.1.1.2, hk.1.2⟩)⟩
  have n3_ : Aside0 (((w35.setCell ⟨gb220, 0, none⟩ (.int .i64 t216)).setCell ⟨gb220, 1, none⟩ (.slice Ao40 t217.length co40)).heap[gb199]? = some (.cells #[.int .i64 a0_0, .slice A0_1 l0_1.length c0_1] 24 (0, 0))) := ⟨by (with_reducible repeat (first | refine blk_drewN ?_ _ | refine blk_drew ?_ | refine blk_alloc ?_ _)); refine blk_far ?_ NB199_220.out _; (with_reducible repeat (first | refine blk_drewN ?_ _ | refine blk_drew ?_ | refine blk_alloc ?_ _)); refine blk_far ?_ NB199_220.out _; (with_reducible repeat (first | refine blk_drewN ?_ _ | refine blk_drew ?_ | refine blk_alloc ?_ _)); exact BK199.out⟩
  have n4_ : Aside0 (((w35.setCell ⟨gb220, 0, none⟩ (.int .i64 t216)).setCell ⟨gb220, 1, none⟩ (.slice Ao40 t217.length co40)).heap[gb200]? = some (.cells #[.int .i64 a1_0, .int .i64 a1_1, .int .i64 a1_2, .int .i64 a1_3] 34 (0, 0))) := ⟨by (with_reducible repeat (first | refine blk_drewN ?_ _ | refine blk_drew ?_ | refine blk_alloc ?_ _)); refine blk_far ?_ NB200_220.out _; (with_reducible repeat (first | refine blk_drewN ?_ _ | refine blk_drew ?_ | refine blk_alloc ?_ _)); refine blk_far ?_ NB200_220.out _; (with_reducible repeat (first | refine blk_drewN ?_ _ | refine blk_drew ?_ | refine blk_alloc ?_ _)); exact BK200.out⟩
  have n5_ : Aside0 (((w35.setCell ⟨gb220, 0, none⟩ (.int .i64 t216)).setCell ⟨gb220, 1, none⟩ (.slice Ao40 t217.length co40)).heap[gb215]? = some (.cells #[.int .i64 t210, .slice Ao30 t211.length co30] 29 (0, 0))) := ⟨by (with_reducible repeat (first | refine blk_drewN ?_ _ | refine blk_drew ?_ | refine blk_alloc ?_ _)); refine blk_far ?_ NB215_220.out _; (with_reducible repeat (first | refine blk_drewN ?_ _ | refine blk_drew ?_ | refine blk_alloc ?_ _)); refine blk_far ?_ NB215_220.out _; (with_reducible repeat (first | refine blk_drewN ?_ _ | refine blk_drew ?_ | refine blk_alloc ?_ _)); exact BK215.out⟩
  have n6_ : Aside0 (((w35.setCell ⟨gb220, 0, none⟩ (.int .i64 t216)).setCell ⟨gb220, 1, none⟩ (.slice Ao40 t217.length co40)).heap[gb220]? = some (.cells #[.int .i64 t216, .slice Ao40 t217.length co40] 29 (0, 0))) := ⟨by (with_reducible repeat (first | refine blk_drewN ?_ _ | refine blk_drew ?_ | refine blk_alloc ?_ _)); refine blk_put (cs := #[.int .i64 t216, .slice none 0 0]) ?_ 1 _ rfl; (with_reducible repeat (first | refine blk_drewN ?_ _ | refine blk_drew ?_ | refine blk_alloc ?_ _)); refine blk_put (cs := #[.int .i64 0, .slice none 0 0]) ?_ 0 _ rfl; (with_reducible repeat (first | refine blk_drewN ?_ _ | refine blk_drew ?_ | refine blk_alloc ?_ _)); exact BK220.out⟩
  have n7_ : Aside0 (Below w.heap.size w ((w35.setCell ⟨gb220, 0, none⟩ (.int .i64 t216)).setCell ⟨gb220, 1, none⟩ (.slice Ao40 t217.length co40))) := ⟨bw⟩
  (try clear HO205)
  (try clear HO213)
  (try clear HO219)
  (try clear BK199)
  (try clear BK200)
  (try clear BK215)
  (try clear BK220)
  (try clear HB)
  generalize ((w35.setCell ⟨gb220, 0, none⟩ (.int .i64 t216)).setCell ⟨gb220, 1, none⟩ (.slice Ao40 t217.length co40)) = w41 at n0_ n1_ n2_ n3_ n4_ n5_ n6_ n7_ ⊢
  have HO205 := n0_
  have HO213 := n1_
  have HO219 := n2_
  have BK199 := n3_
  have BK200 := n4_
  have BK215 := n5_
  have BK220 := n6_
  have HB := n7_
  clear n0_ n1_ n2_ n3_ n4_ n5_ n6_ n7_
  replace HO205 := Aside0.mk (Kd.R_drew HO205.out)
  replace HO213 := Aside0.mk (Kd.R_drew HO213.out)
  replace HO219 := Aside0.mk (Kd.R_drew HO219.out)
  replace BK199 := Aside0.mk (blk_drew BK199.out)
  replace BK200 := Aside0.mk (blk_drew BK200.out)
  replace BK215 := Aside0.mk (blk_drew BK215.out)
  replace BK220 := Aside0.mk (blk_drew BK220.out)
  replace HB := Aside0.mk (below_drew1 HB.out)
  refine start_ (n := 10) (S := fun w' => w'.cell? ⟨gb220, 0, none⟩ = some (.int .i64 t216) ∧ w'.cell? ⟨gb220, 1, none⟩ = some (.slice Ao40 t217.length co40) ∧ w'.cell? ⟨gb200, 0, none⟩ = some (.int .i64 a1_0) ∧ w'.cell? ⟨gb200, 1, none⟩ = some (.int .i64 a1_1) ∧ w'.cell? ⟨gb200, 2, none⟩ = some (.int .i64 a1_2) ∧ w'.cell? ⟨gb200, 3, none⟩ = some (.int .i64 a1_3)) (ds := []) #[false, false, false, false, false, false, false, false, false, false] (by kernel_rfl) rfl rfl ⟨ec BK220, ec BK220, ec BK200, ec BK200, ec BK200, ec BK200⟩ (fun hHeld => ?_); refine with_tabW laws_FnExactAddClue.tab7 laws_FnExactAddClue.bits7 (fun HT_ HW_ => ?_)
  generalize w41.drew = w42 at HO205 HO213 HO219 BK199 BK200 BK215 BK220 HB hHeld ⊢
  refine take_ (i := 0) (N := some 32) (v := ?_) (a' := ?_) #[true, false, false, false, false, false, false, false, false, false] rfl rfl (take_ofW HT_.out HW_.out (by kernel_rfl)) (fun _ _ _ h => h) (Or.inl ⟨by rfl, ?_⟩) hHeld ?_ ?_
  rotate_left
  ·rintro w' ⟨s0, s1, s2, s3, s4, s5⟩
   go_simp
   with_reducible rfl
  rotate_left
  ·simp only [Act.put, List.setIfInBounds_toArray, List.set_cons_zero, List.set_cons_succ, i64_w, i32_w]
   rfl
  refine take_ (i := 1) (N := some 33) (v := ?_) (a' := ?_) #[true, true, false, false, false, false, false, false, false, false] rfl rfl (take_ofW HT_.out HW_.out (by kernel_rfl)) (fun _ _ _ h => h) (Or.inl ⟨by rfl, ?_⟩) hHeld ?_ ?_
  rotate_left
  ·rintro w' ⟨s0, s1, s2, s3, s4, s5⟩
   go_simp
   with_reducible rfl
  rotate_left
  ·simp only [Act.put, List.setIfInBounds_toArray, List.set_cons_zero, List.set_cons_succ, i64_w, i32_w]
   rfl
  refine join_ (σ := Value × Nat) 2 #[true, true, true, true, true, true, true, true, false, false] (fun s_ => [(34, .agg #[.int .i64 t221, .int .i64 t222, .int .i64 t223, .int .i64 t224]), (35, .tuple #[.agg #[.int .i64 t225, s_.1], .bool t229]), (9, .pointer (some ⟨s_.2, 0, none⟩)), (31, .tuple #[.agg #[.int .i64 t225, s_.1], .bool t229]), (36, .agg #[.int .i64 t225, s_.1]), (37, .bool t229)]) (fun s_ w' => (w'.cell? ⟨gb220, 0, none⟩ = some (.int .i64 t216) ∧ w'.cell? ⟨gb220, 1, none⟩ = some (.slice Ao40 t217.length co40) ∧ w'.cell? ⟨gb200, 0, none⟩ = some (.int .i64 a1_0) ∧ w'.cell? ⟨gb200, 1, none⟩ = some (.int .i64 a1_1) ∧ w'.cell? ⟨gb200, 2, none⟩ = some (.int .i64 a1_2) ∧ w'.cell? ⟨gb200, 3, none⟩ = some (.int .i64 a1_3)) ∧ (Kd.R k37 37 w' w.heap.size (fun k_ => some k_ ≠ (.slice Ao30 t211.length co30 : Value).ownBlock ∧ some k_ ≠ (.slice Ao40 t217.length co40 : Value).ownBlock ∧ some k_ ≠ (s_.1 : Value).ownBlock) v204 t203) ∧ (Kd.R k37 37 w' w.heap.size (fun k_ => some k_ ≠ (v204 : Value).ownBlock ∧ some k_ ≠ (.slice Ao40 t217.length co40 : Value).ownBlock ∧ some k_ ≠ (s_.1 : Value).ownBlock) (.slice Ao30 t211.length co30) t211) ∧ (Kd.R k37 37 w' w.heap.size (fun k_ => some k_ ≠ (v204 : Value).ownBlock ∧ some k_ ≠ (.slice Ao30 t211.length co30 : Value).ownBlock ∧ some k_ ≠ (s_.1 : Value).ownBlock) (.slice Ao40 t217.length co40) t217) ∧ (Kd.R k37 37 w' w.heap.size (fun k_ => some k_ ≠ (v204 : Value).ownBlock ∧ some k_ ≠ (.slice Ao30 t211.length co30 : Value).ownBlock ∧ some k_ ≠ (.slice Ao40 t217.length co40 : Value).ownBlock) s_.1 t226) ∧ (w'.heap[gb199]? = some (.cells #[.int .i64 a0_0, .slice A0_1 l0_1.length c0_1] 24 (0, 0))) ∧ (w'.heap[gb200]? = some (.cells #[.int .i64 a1_0, .int .i64 a1_1, .int .i64 a1_2, .int .i64 a1_3] 34 (0, 0))) ∧ (w'.heap[gb215]? = some (.cells #[.int .i64 t210, .slice Ao30 t211.length co30] 29 (0, 0))) ∧ (w'.heap[gb220]? = some (.cells #[.int .i64 t216, .slice Ao40 t217.length co40] 29 (0, 0))) ∧ (w'.heap[s_.2]? = some (.cells #[.int .i64 0, .slice none 0 0] 29 (0, 0))) ∧ (w.heap.size ≤ s_.2) ∧ (w.heap.size ≤ s_.2) ∧ (gb199 ≠ s_.2) ∧ (s_.2 ≠ gb199) ∧ (gb200 ≠ s_.2) ∧ (s_.2 ≠ gb200) ∧ (gb215 ≠ s_.2) ∧ (s_.2 ≠ gb215) ∧ (gb220 ≠ s_.2) ∧ (s_.2 ≠ gb220) ∧ (Below w.heap.size w w')) ?_ ?_
  rotate_left
  ·intro hCont
   refine two_ (i := 2) (j := 7) (Ni := some 34) (Nj := some 9) #[true, true, true, false, false, false, false, false, false, false] #[true, true, false, false, false, false, false, true, false, false] rfl rfl rfl rfl (two_of HT_.out (by kernel_rfl)) (by decide) (by decide) (fun K hK => ?_) (fun K hK => ?_)
   ·skip
    refine goes_ Try.func12 (by kernel_rfl) rfl #[.agg #[.int .i64 a1_0, .int .i64 a1_1, .int .i64 a1_2, .int .i64 a1_3]] (by rfl) rfl rfl (by (try simp only [List.map_toArray, List.map_cons, List.map_nil]); first | done | rfl | (simp only [List.length_drop, List.length_take]; rfl)) ?_
    with_reducible refine (laws_toClue.calls a1_0 a1_1 a1_2 a1_3 t221 t222 t223 t224 _ A14.out).mono ?_
    rintro e w43 ⟨rfl, hb⟩
    refine ⟨_, rfl, ?_⟩
    replace HO205 := Aside0.mk (Kd.R_below (pr HO205) hb)
    replace HO213 := Aside0.mk (Kd.R_below (pr HO213) hb)
    replace HO219 := Aside0.mk (Kd.R_below (pr HO219) hb)
    replace BK199 := nk BK199 hb
    replace BK200 := nk BK200 hb
    replace BK215 := nk BK215 hb
    replace BK220 := nk BK220 hb
    replace HB := bs hb
    (try clear hb)
    refine hK.out _ _ ⟨ec BK220, ec BK220, ec BK200, ec BK200, ec BK200, ec BK200⟩ (fun hHeld => ?_)
    clear hK K
    refine nm (some 34) ?_
    refine two_ (i := 3) (j := 7) (Ni := some 35) (Nj := some 9) #[true, true, true, true, false, false, false, false, false, false] #[true, true, true, false, false, false, false, true, false, false] rfl rfl rfl rfl (two_of HT_.out (by kernel_rfl)) (by decide) (by decide) (fun K hK => ?_) (fun K hK => ?_)
    ·skip
     refine goes_ Try.func13 (by kernel_rfl) rfl #[.agg #[.int .i64 t216, .slice Ao40 t217.length co40], .agg #[.int .i64 t221, .int .i64 t222, .int .i64 t223, .int .i64 t224]] (by rfl) rfl rfl (by (try simp only [List.map_toArray, List.map_cons, List.map_nil]); first | done | rfl | (simp only [List.length_drop, List.length_take]; rfl)) ?_
     with_reducible refine (impl_AddClue.calls k t216 _ _ t217 t221 t222 t223 t224 t225 t226 t229 _ ?side1 ?side2 A15.out).mono ?_
     (case side1 => repeat (first | exact (Kd.R_reads' HO219.out).2.2 | (with_reducible refine Kd.C_alloc ?_ _) | (with_reducible refine Kd.C_drewN ?_ _) | (with_reducible refine Kd.C_drew ?_)))
     (case side2 => exact (Kd.R_reads' HO219.out).2.1)
     rintro e w44 ⟨v227, rfl, ho0, hb⟩
     refine ⟨_, rfl, ?_⟩
     have HO228 := Aside0.mk (Kd.R_lower (Kd.R_new' (Kd.R_new' (Kd.R_new' ho0 (Kd.R_lt (pr HO205))) (Kd.R_lt (pr HO213))) (Kd.R_lt (pr HO219))) (below_size bw))
     replace HO205 := Aside0.mk (Kd.R_elder' (pr HO205) (Kd.R_base ho0) hb)
     replace HO213 := Aside0.mk (Kd.R_elder' (pr HO213) (Kd.R_base ho0) hb)
     replace HO219 := Aside0.mk (Kd.R_elder' (pr HO219) (Kd.R_base ho0) hb)
     replace BK199 := nk BK199 hb
     replace BK200 := nk BK200 hb
     replace BK215 := nk BK215 hb
     replace BK220 := nk BK220 hb
     replace HB := bs hb
     (try clear hb)
     (try clear ho0)
     refine hK.out _ _ ⟨ec BK220, ec BK220, ec BK200, ec BK200, ec BK200, ec BK200⟩ (fun hHeld => ?_)
     clear hK K
     refine nm (some 35) ?_
     refine pu 4 (some 31) #[true, true, true, true, true, false, false, false, false, false] ?_
     refine pu 5 (some 36) #[true, true, true, true, true, true, false, false, false, false] ?_
     refine pu 6 (some 37) #[true, true, true, true, true, true, true, false, false, false] ?_
     refine one_ (i := 7) (N := some 9) #[true, true, true, true, true, true, true, true, false, false] rfl rfl (one_of HT_.out (by kernel_rfl)) (by decide) (fun K hK => ?_)
     refine box_step ?hg (N := 9) ?hd (cs := #[.int .i64 0, .slice none 0 0]) (t := 29) ?hr ?_; (case hd => rfl); (case hg => rfl); (case hr => first | (go_simp; done) | (go_simp; rfl))
     intro gb230 hg w45 hbox hb
     replace HO205 := Aside0.mk (Kd.R_below (pr HO205) hb)
     replace HO213 := Aside0.mk (Kd.R_below (pr HO213) hb)
     replace HO219 := Aside0.mk (Kd.R_below (pr HO219) hb)
     replace HO228 := Aside0.mk (Kd.R_below (pr HO228) hb)
     have BK230 := Aside0.mk (hbox)
     have GW230 := gs hg
     have GE230 := gs hg
     replace HB := bs hb
     have NB199_230 := nl BK199 hg
     have NB230_199 := ng BK199 hg
     replace BK199 := nk BK199 hb
     have NB200_230 := nl BK200 hg
     have NB230_200 := ng BK200 hg
     replace BK200 := nk BK200 hb
     have NB215_230 := nl BK215 hg
     have NB230_215 := ng BK215 hg
     replace BK215 := nk BK215 hb
     have NB220_230 := nl BK220 hg
     have NB230_220 := ng BK220 hg
     replace BK220 := nk BK220 hb
     clear hb hbox hg
     refine hK.out _ _ ⟨ec BK220, ec BK220, ec BK200, ec BK200, ec BK200, ec BK200⟩ (fun hHeld => ?_)
     clear hK K
     refine nm (some 9) ?_
     exact norm_ (by simp only [putAll, Act.put, List.setIfInBounds_toArray, List.set_cons_zero, List.set_cons_succ]) (hCont (v227, gb230) _ ⟨hHeld, (by (with_reducible repeat (first | apply Kd.R_alloc | apply Kd.R_drewN | apply Kd.R_drew)); exact Kd.R_mono HO205.out (fun _ hk => ⟨hk.1.1, ⟨hk.1.2, hk.2⟩⟩)), (by (with_reducible repeat (first | apply Kd.R_alloc | apply Kd.R_drewN | apply Kd.R_drew)); exact Kd.R_mono HO213.out (fun _ hk => ⟨hk.1.1, ⟨hk.1.2, hk.2⟩⟩)), (by (with_reducible repeat (first | apply Kd.R_alloc | apply Kd.R_drewN | apply Kd.R_drew)); exact Kd.R_mono HO219.out (fun _ hk => ⟨hk.1.1, ⟨hk.1.2, hk.2⟩⟩)), (by (with_reducible repeat (first | apply Kd.R_alloc | apply Kd.R_drewN | apply Kd.R_drew)); exact Kd.R_mono HO228.out (fun _ hk => ⟨hk.1.1.2, ⟨hk.1.2, hk.2⟩⟩)), (pk BK199), (pk BK200), (pk BK215), (pk BK220), (pk BK230), GW230.out, GE230.out, NB199_230.out, NB230_199.out, NB200_230.out, NB230_200.out, NB215_230.out, NB230_215.out, NB220_230.out, NB230_220.out, bw⟩)
    ·skip
     refine box_step ?hg (N := 9) ?hd (cs := #[.int .i64 0, .slice none 0 0]) (t := 29) ?hr ?_; (case hd => rfl); (case hg => rfl); (case hr => first | (go_simp; done) | (go_simp; rfl))
     intro gb230 hg w44 hbox hb
     replace HO205 := Aside0.mk (Kd.R_below (pr HO205) hb)
     replace HO213 := Aside0.mk (Kd.R_below (pr HO213) hb)
     replace HO219 := Aside0.mk (Kd.R_below (pr HO219) hb)
     have BK230 := Aside0.mk (hbox)
     have GW230 := gs hg
     have GE230 := gs hg
     replace HB := bs hb
     have NB199_230 := nl BK199 hg
     have NB230_199 := ng BK199 hg
     replace BK199 := nk BK199 hb
     have NB200_230 := nl BK200 hg
     have NB230_200 := ng BK200 hg
     replace BK200 := nk BK200 hb
     have NB215_230 := nl BK215 hg
     have NB230_215 := ng BK215 hg
     replace BK215 := nk BK215 hb
     have NB220_230 := nl BK220 hg
     have NB230_220 := ng BK220 hg
     replace BK220 := nk BK220 hb
     clear hb hbox hg
     refine hK.out _ _ ⟨ec BK220, ec BK220, ec BK200, ec BK200, ec BK200, ec BK200⟩ (fun hHeld => ?_)
     clear hK K
     refine nm (some 9) ?_
     refine one_ (i := 3) (N := some 35) #[true, true, true, true, false, false, false, true, false, false] rfl rfl (one_of HT_.out (by kernel_rfl)) (by decide) (fun K hK => ?_)
     refine goes_ Try.func13 (by kernel_rfl) rfl #[.agg #[.int .i64 t216, .slice Ao40 t217.length co40], .agg #[.int .i64 t221, .int .i64 t222, .int .i64 t223, .int .i64 t224]] (by rfl) rfl rfl (by (try simp only [List.map_toArray, List.map_cons, List.map_nil]); first | done | rfl | (simp only [List.length_drop, List.length_take]; rfl)) ?_
     with_reducible refine (impl_AddClue.calls k t216 _ _ t217 t221 t222 t223 t224 t225 t226 t229 _ ?side1 ?side2 A15.out).mono ?_
     (case side1 => repeat (first | exact (Kd.R_reads' HO219.out).2.2 | (with_reducible refine Kd.C_alloc ?_ _) | (with_reducible refine Kd.C_drewN ?_ _) | (with_reducible refine Kd.C_drew ?_)))
     (case side2 => exact (Kd.R_reads' HO219.out).2.1)
     rintro e w45 ⟨v227, rfl, ho0, hb⟩
     refine ⟨_, rfl, ?_⟩
     have HO228 := Aside0.mk (Kd.R_lower (Kd.R_new' (Kd.R_new' (Kd.R_new' ho0 (Kd.R_lt (pr HO205))) (Kd.R_lt (pr HO213))) (Kd.R_lt (pr HO219))) (below_size bw))
     replace HO205 := Aside0.mk (Kd.R_elder' (pr HO205) (Kd.R_base ho0) hb)
     replace HO213 := Aside0.mk (Kd.R_elder' (pr HO213) (Kd.R_base ho0) hb)
     replace HO219 := Aside0.mk (Kd.R_elder' (pr HO219) (Kd.R_base ho0) hb)
     replace BK199 := nk BK199 hb
     replace BK200 := nk BK200 hb
     replace BK215 := nk BK215 hb
     replace BK220 := nk BK220 hb
     replace BK230 := nk BK230 hb
     replace HB := bs hb
     (try clear hb)
     (try clear ho0)
     refine hK.out _ _ ⟨ec BK220, ec BK220, ec BK200, ec BK200, ec BK200, ec BK200⟩ (fun hHeld => ?_)
     clear hK K
     refine nm (some 35) ?_
     refine pu 4 (some 31) #[true, true, true, true, true, false, false, true, false, false] ?_
     refine pu 5 (some 36) #[true, true, true, true, true, true, false, true, false, false] ?_
     refine pu 6 (some 37) #[true, true, true, true, true, true, true, true, false, false] ?_
     exact norm_ (by simp only [putAll, Act.put, List.setIfInBounds_toArray, List.set_cons_zero, List.set_cons_succ]) (hCont (v227, gb230) _ ⟨hHeld, (by (with_reducible repeat (first | apply Kd.R_alloc | apply Kd.R_drewN | apply Kd.R_drew)); exact Kd.R_mono HO205.out (fun _ hk => ⟨hk.1.1, ⟨hk.1.2, hk.2⟩⟩)), (by (with_reducible repeat (first | apply Kd.R_alloc | apply Kd.R_drewN | apply Kd.R_drew)); exact Kd.R_mono HO213.out (fun _ hk => ⟨hk.1.1, ⟨hk.1.2, hk.2⟩⟩)), (by (with_reducible repeat (first | apply Kd.R_alloc | apply Kd.R_drewN | apply Kd.R_drew)); exact Kd.R_mono HO219.out (fun _ hk => ⟨hk.1.1, ⟨hk.1.2, hk.2⟩⟩)), (by (with_reducible repeat (first | apply Kd.R_alloc | apply Kd.R_drewN | apply Kd.R_drew)); exact Kd.R_mono HO228.out (fun _ hk => ⟨hk.1.1.2, ⟨hk.1.2, hk.2⟩⟩)), (pk BK199), (pk BK200), (pk BK215), (pk BK220), (pk BK230), GW230.out, GE230.out, NB199_230.out, NB230_199.out, NB200_230.out, NB230_200.out, NB215_230.out, NB230_215.out, NB220_230.out, NB230_220.out, bw⟩)
   ·skip
    refine box_step ?hg (N := 9) ?hd (cs := #[.int .i64 0, .slice none 0 0]) (t := 29) ?hr ?_; (case hd => rfl); (case hg => rfl); (case hr => first | (go_simp; done) | (go_simp; rfl))
    intro gb230 hg w43 hbox hb
    replace HO205 := Aside0.mk (Kd.R_below (pr HO205) hb)
    replace HO213 := Aside0.mk (Kd.R_below (pr HO213) hb)
    replace HO219 := Aside0.mk (Kd.R_below (pr HO219) hb)
    have BK230 := Aside0.mk (hbox)
    have GW230 := gs hg
    have GE230 := gs hg
    replace HB := bs hb
    have NB199_230 := nl BK199 hg
    have NB230_199 := ng BK199 hg
    replace BK199 := nk BK199 hb
    have NB200_230 := nl BK200 hg
    have NB230_200 := ng BK200 hg
    replace BK200 := nk BK200 hb
    have NB215_230 := nl BK215 hg
    have NB230_215 := ng BK215 hg
    replace BK215 := nk BK215 hb
    have NB220_230 := nl BK220 hg
    have NB230_220 := ng BK220 hg
    replace BK220 := nk BK220 hb
    clear hb hbox hg
    refine hK.out _ _ ⟨ec BK220, ec BK220, ec BK200, ec BK200, ec BK200, ec BK200⟩ (fun hHeld => ?_)
    clear hK K
    refine nm (some 9) ?_
    refine one_ (i := 2) (N := some 34) #[true, true, true, false, false, false, false, true, false, false] rfl rfl (one_of HT_.out (by kernel_rfl)) (by decide) (fun K hK => ?_)
    refine goes_ Try.func12 (by kernel_rfl) rfl #[.agg #[.int .i64 a1_0, .int .i64 a1_1, .int .i64 a1_2, .int .i64 a1_3]] (by rfl) rfl rfl (by (try simp only [List.map_toArray, List.map_cons, List.map_nil]); first | done | rfl | (simp only [List.length_drop, List.length_take]; rfl)) ?_
    with_reducible refine (laws_toClue.calls a1_0 a1_1 a1_2 a1_3 t221 t222 t223 t224 _ A14.out).mono ?_
    rintro e w44 ⟨rfl, hb⟩
    refine ⟨_, rfl, ?_⟩
    replace HO205 := Aside0.mk (Kd.R_below (pr HO205) hb)
    replace HO213 := Aside0.mk (Kd.R_below (pr HO213) hb)
    replace HO219 := Aside0.mk (Kd.R_below (pr HO219) hb)
    replace BK199 := nk BK199 hb
    replace BK200 := nk BK200 hb
    replace BK215 := nk BK215 hb
    replace BK220 := nk BK220 hb
    replace BK230 := nk BK230 hb
    replace HB := bs hb
    (try clear hb)
    refine hK.out _ _ ⟨ec BK220, ec BK220, ec BK200, ec BK200, ec BK200, ec BK200⟩ (fun hHeld => ?_)
    clear hK K
    refine nm (some 34) ?_
    refine one_ (i := 3) (N := some 35) #[true, true, true, true, false, false, false, true, false, false] rfl rfl (one_of HT_.out (by kernel_rfl)) (by decide) (fun K hK => ?_)
    refine goes_ Try.func13 (by kernel_rfl) rfl #[.agg #[.int .i64 t216, .slice Ao40 t217.length co40], .agg #[.int .i64 t221, .int .i64 t222, .int .i64 t223, .int .i64 t224]] (by rfl) rfl rfl (by (try simp only [List.map_toArray, List.map_cons, List.map_nil]); first | done | rfl | (simp only [List.length_drop, List.length_take]; rfl)) ?_
    with_reducible refine (impl_AddClue.calls k t216 _ _ t217 t221 t222 t223 t224 t225 t226 t229 _ ?side1 ?side2 A15.out).mono ?_
    (case side1 => repeat (first | exact (Kd.R_reads' HO219.out).2.2 | (with_reducible refine Kd.C_alloc ?_ _) | (with_reducible refine Kd.C_drewN ?_ _) | (with_reducible refine Kd.C_drew ?_)))
    (case side2 => exact (Kd.R_reads' HO219.out).2.1)
    rintro e w45 ⟨v227, rfl, ho0, hb⟩
    refine ⟨_, rfl, ?_⟩
    have HO228 := Aside0.mk (Kd.R_lower (Kd.R_new' (Kd.R_new' (Kd.R_new' ho0 (Kd.R_lt (pr HO205))) (Kd.R_lt (pr HO213))) (Kd.R_lt (pr HO219))) (below_size bw))
    replace HO205 := Aside0.mk (Kd.R_elder' (pr HO205) (Kd.R_base ho0) hb)
    replace HO213 := Aside0.mk (Kd.R_elder' (pr HO213) (Kd.R_base ho0) hb)
    replace HO219 := Aside0.mk (Kd.R_elder' (pr HO219) (Kd.R_base ho0) hb)
    replace BK199 := nk BK199 hb
    replace BK200 := nk BK200 hb
    replace BK215 := nk BK215 hb
    replace BK220 := nk BK220 hb
    replace BK230 := nk BK230 hb
    replace HB := bs hb
    (try clear hb)
    (try clear ho0)
    refine hK.out _ _ ⟨ec BK220, ec BK220, ec BK200, ec BK200, ec BK200, ec BK200⟩ (fun hHeld => ?_)
    clear hK K
    refine nm (some 35) ?_
    refine pu 4 (some 31) #[true, true, true, true, true, false, false, true, false, false] ?_
    refine pu 5 (some 36) #[true, true, true, true, true, true, false, true, false, false] ?_
    refine pu 6 (some 37) #[true, true, true, true, true, true, true, true, false, false] ?_
    exact norm_ (by simp only [putAll, Act.put, List.setIfInBounds_toArray, List.set_cons_zero, List.set_cons_succ]) (hCont (v227, gb230) _ ⟨hHeld, (by (with_reducible repeat (first | apply Kd.R_alloc | apply Kd.R_drewN | apply Kd.R_drew)); exact Kd.R_mono HO205.out (fun _ hk => ⟨hk.1.1, ⟨hk.1.2, hk.2⟩⟩)), (by (with_reducible repeat (first | apply Kd.R_alloc | apply Kd.R_drewN | apply Kd.R_drew)); exact Kd.R_mono HO213.out (fun _ hk => ⟨hk.1.1, ⟨hk.1.2, hk.2⟩⟩)), (by (with_reducible repeat (first | apply Kd.R_alloc | apply Kd.R_drewN | apply Kd.R_drew)); exact Kd.R_mono HO219.out (fun _ hk => ⟨hk.1.1, ⟨hk.1.2, hk.2⟩⟩)), (by (with_reducible repeat (first | apply Kd.R_alloc | apply Kd.R_drewN | apply Kd.R_drew)); exact Kd.R_mono HO228.out (fun _ hk => ⟨hk.1.1.2, ⟨hk.1.2, hk.2⟩⟩)), (pk BK199), (pk BK200), (pk BK215), (pk BK220), (pk BK230), GW230.out, GE230.out, NB199_230.out, NB230_199.out, NB200_230.out, NB230_200.out, NB215_230.out, NB230_215.out, NB220_230.out, NB230_220.out, bw⟩)
  rintro ⟨v227, gb230⟩ w46 ⟨hS_, h0_, h1_, h2_, h3_, h4_, h5_, h6_, h7_, h8_, h9_, h10_, h11_, h12_, h13_, h14_, h15_, h16_, h17_, h18_, h19_⟩
  have n0_ : Aside0 (Kd.R k37 37 w46 w.heap.size (fun k_ => some k_ ≠ (.slice Ao30 t211.length co30 : Value).ownBlock ∧ some k_ ≠ (.slice Ao40 t217.length co40 : Value).ownBlock ∧ some k_ ≠ (v227 : Value).ownBlock) v204 t203) := ⟨h0_⟩
  have n1_ : Aside0 (Kd.R k37 37 w46 w.heap.size (fun k_ => some k_ ≠ (v204 : Value).ownBlock ∧ some k_ ≠ (.slice Ao40 t217.length co40 : Value).ownBlock ∧ some k_ ≠ (v227 : Value).ownBlock) (.slice Ao30 t211.length co30) t211) := ⟨h1_⟩
  have n2_ : Aside0 (Kd.R k37 37 w46 w.heap.size (fun k_ => some k_ ≠ (v204 : Value).ownBlock ∧ some k_ ≠ (.slice Ao30 t211.length co30 : Value).ownBlock ∧ some k_ ≠ (v227 : Value).ownBlock) (.slice Ao40 t217.length co40) t217) := ⟨h2_⟩
  have n3_ : Aside0 (Kd.R k37 37 w46 w.heap.size (fun k_ => some k_ ≠ (v204 : Value).ownBlock ∧ some k_ ≠ (.slice Ao30 t211.length co30 : Value).ownBlock ∧ some k_ ≠ (.slice Ao40 t217.length co40 : Value).ownBlock) v227 t226) := ⟨h3_⟩
  have n4_ : Aside0 (w46.heap[gb199]? = some (.cells #[.int .i64 a0_0, .slice A0_1 l0_1.length c0_1] 24 (0, 0))) := ⟨h4_⟩
  have n5_ : Aside0 (w46.heap[gb200]? = some (.cells #[.int .i64 a1_0, .int .i64 a1_1, .int .i64 a1_2, .int .i64 a1_3] 34 (0, 0))) := ⟨h5_⟩
  have n6_ : Aside0 (w46.heap[gb215]? = some (.cells #[.int .i64 t210, .slice Ao30 t211.length co30] 29 (0, 0))) := ⟨h6_⟩
  have n7_ : Aside0 (w46.heap[gb220]? = some (.cells #[.int .i64 t216, .slice Ao40 t217.length co40] 29 (0, 0))) := ⟨h7_⟩
  have n8_ : Aside0 (w46.heap[gb230]? = some (.cells #[.int .i64 0, .slice none 0 0] 29 (0, 0))) := ⟨h8_⟩
  have n9_ : Aside0 (w.heap.size ≤ gb230) := ⟨h9_⟩
  have n10_ : Aside0 (w.heap.size ≤ gb230) := ⟨h10_⟩
  have n11_ : Aside0 (gb199 ≠ gb230) := ⟨h11_⟩
  have n12_ : Aside0 (gb230 ≠ gb199) := ⟨h12_⟩
  have n13_ : Aside0 (gb200 ≠ gb230) := ⟨h13_⟩
  have n14_ : Aside0 (gb230 ≠ gb200) := ⟨h14_⟩
  have n15_ : Aside0 (gb215 ≠ gb230) := ⟨h15_⟩
  have n16_ : Aside0 (gb230 ≠ gb215) := ⟨h16_⟩
  have n17_ : Aside0 (gb220 ≠ gb230) := ⟨h17_⟩
  have n18_ : Aside0 (gb230 ≠ gb220) := ⟨h18_⟩
  have n19_ : Aside0 (Below w.heap.size w w46) := ⟨h19_⟩
  clear HO205
  clear HO213
  clear HO219
  clear BK199
  clear BK200
  clear BK215
  clear BK220
  clear HB
  clear h0_ h1_ h2_ h3_ h4_ h5_ h6_ h7_ h8_ h9_ h10_ h11_ h12_ h13_ h14_ h15_ h16_ h17_ h18_ h19_
  have HO205 := n0_
  have HO213 := n1_
  have HO219 := n2_
  have HO228 := n3_
  have BK199 := n4_
  have BK200 := n5_
  have BK215 := n6_
  have BK220 := n7_
  have BK230 := n8_
  have GW230 := n9_
  have GE230 := n10_
  have NB199_230 := n11_
  have NB230_199 := n12_
  have NB200_230 := n13_
  have NB230_200 := n14_
  have NB215_230 := n15_
  have NB230_215 := n16_
  have NB220_230 := n17_
  have NB230_220 := n18_
  have HB := n19_
  clear n0_ n1_ n2_ n3_ n4_ n5_ n6_ n7_ n8_ n9_ n10_ n11_ n12_ n13_ n14_ n15_ n16_ n17_ n18_ n19_
  have hHeld : w46.cell? ⟨gb220, 0, none⟩ = some (.int .i64 t216) ∧ w46.cell? ⟨gb220, 1, none⟩ = some (.slice Ao40 t217.length co40) ∧ w46.cell? ⟨gb200, 0, none⟩ = some (.int .i64 a1_0) ∧ w46.cell? ⟨gb200, 1, none⟩ = some (.int .i64 a1_1) ∧ w46.cell? ⟨gb200, 2, none⟩ = some (.int .i64 a1_2) ∧ w46.cell? ⟨gb200, 3, none⟩ = some (.int .i64 a1_3) := hS_
  obtain ⟨Ao48, co48, eo48⟩ := Kd.R_slice HO228.out
  (first | subst eo48 | (injection eo48 with f1_ f2_ f3_; have f4_ := f1_.symm; have f5_ := f3_.symm; clear f1_ f2_ f3_; subst f4_; subst f5_))
  refine norm_ (a' := ?_) ?_ ?_
  rotate_left
  ·simp only [putAll, Act.put, List.setIfInBounds_toArray, List.set_cons_zero, List.set_cons_succ]
   rfl
  refine one_ (i := 8) (N := none) #[true, true, true, true, true, true, true, true, true, false] rfl rfl (one_of HT_.out (by kernel_rfl)) (by decide) (fun K hK => ?_)
  have hs47 : w46.cell? ⟨gb230, 0, none⟩ = some (.int .i64 0) := ec BK230
  have hfs47 := blk_frozen BK230.out 0
  have hns47_0 := NB199_230.out
  have hns47_1 := NB200_230.out
  have hns47_2 := NB215_230.out
  have hns47_3 := NB220_230.out
  have hms47_0 := NB230_199.out
  have hms47_1 := NB230_200.out
  have hms47_2 := NB230_215.out
  have hms47_3 := NB230_220.out
  have hs49 : w46.cell? ⟨gb230, 1, none⟩ = some (.slice none 0 0) := ec BK230
  have hfs49 := blk_frozen BK230.out 1
  have hns49_0 := NB199_230.out
  have hns49_1 := NB200_230.out
  have hns49_2 := NB215_230.out
  have hns49_3 := NB220_230.out
  have hms49_0 := NB230_199.out
  have hms49_1 := NB230_200.out
  have hms49_2 := NB230_215.out
  have hms49_3 := NB230_220.out
  refine skip_ (w1 := ?_) (by rfl) rfl ?_ ?_
  rotate_left
  ·go_simp
   rfl
  refine hK.out _ _ ⟨((cell_far (p := ⟨gb230, _, none⟩) NB220_230.out _).trans (((cell_far (p := ⟨gb230, _, none⟩) NB220_230.out _).trans (hHeld.1)))), ((cell_far (p := ⟨gb230, _, none⟩) NB220_230.out _).trans (((cell_far (p := ⟨gb230, _, none⟩) NB220_230.out _).trans (hHeld.2.1)))), ((cell_far (p := ⟨gb230, _, none⟩) NB200_230.out _).trans (((cell_far (p := ⟨gb230, _, none⟩) NB200_230.out _).trans (hHeld.2.2.1)))), ((cell_far (p := ⟨gb230, _, none⟩) NB200_230.out _).trans (((cell_far (p := ⟨gb230, _, none⟩) NB200_230.out _).trans (hHeld.2.2.2.1)))), ((cell_far (p := ⟨gb230, _, none⟩) NB200_230.out _).trans (((cell_far (p := ⟨gb230, _, none⟩) NB200_230.out _).trans (hHeld.2.2.2.2.1)))), ((cell_far (p := ⟨gb230, _, none⟩) NB200_230.out _).trans (((cell_far (p := ⟨gb230, _, none⟩) NB200_230.out _).trans (hHeld.2.2.2.2.2))))⟩ (fun hHeld => ?_)
  clear hK K
  refine pu 9 (some 10) #[true, true, true, true, true, true, true, true, true, true] ?_
  refine done_ (done_of HT_.out (by kernel_rfl)) ?_
  go_upto_region 8 with (fail)
  go_cut [46] (fun v46 wc => ∃ (kq : Nat) (x46_15 : Bool), v46 = .bool x46_15 ∧ Aside0 (laws_FnExactAddClue.j0 kq t214 t229 x46_15 a0_0 l0_1 a1_0 a1_1 a1_2 a1_3 t210 t211 t216 t217 t225 t226 = some r) ∧ Aside0 (kq ≤ k) ∧ Aside0 (Kd.R k37 37 wc w.heap.size (fun k_ => some k_ ≠ ((.slice Ao40 t217.length co40) : Value).ownBlock ∧ some k_ ≠ ((.slice Ao48 t226.length co48) : Value).ownBlock) (.slice Ao30 t211.length co30) t211) ∧ Aside0 (Kd.R k37 37 wc w.heap.size (fun k_ => some k_ ≠ ((.slice Ao30 t211.length co30) : Value).ownBlock ∧ some k_ ≠ ((.slice Ao48 t226.length co48) : Value).ownBlock) (.slice Ao40 t217.length co40) t217) ∧ Aside0 (Kd.R k37 37 wc w.heap.size (fun k_ => some k_ ≠ ((.slice Ao30 t211.length co30) : Value).ownBlock ∧ some k_ ≠ ((.slice Ao40 t217.length co40) : Value).ownBlock) (.slice Ao48 t226.length co48) t226) ∧ Aside0 (wc.heap[gb199]? = some (.cells #[.int .i64 a0_0, (.slice A0_1 l0_1.length c0_1)] 24 (0, 0))) ∧ Aside0 (wc.heap[gb200]? = some (.cells #[.int .i64 a1_0, .int .i64 a1_1, .int .i64 a1_2, .int .i64 a1_3] 34 (0, 0))) ∧ Aside0 (wc.heap[gb215]? = some (.cells #[.int .i64 t210, (.slice Ao30 t211.length co30)] 29 (0, 0))) ∧ Aside0 (wc.heap[gb220]? = some (.cells #[.int .i64 t216, (.slice Ao40 t217.length co40)] 29 (0, 0))) ∧ Aside0 (wc.heap[gb230]? = some (.cells #[.int .i64 t225, (.slice Ao48 t226.length co48)] 29 (0, 0))) ∧ Aside0 (Below w.heap.size w wc))
  case first =>
   have H := HC16.out
   clear HC16
   replace H := Option.bind_eq_some_iff.mp H
   obtain ⟨t231, A500, H⟩ := H
   (try dsimp only at H)
   have A50 := Aside0.mk A500
   clear A500
   by_cases c51 : t231 = true
   ·subst c51
    rw [if_pos rfl] at H
    have H' := Aside0.mk H
    clear H
    have hnb52 := NB230_199.out
    have hnc52 := NB199_230.out
    have hnb53 := NB230_200.out
    have hnc53 := NB200_230.out
    have hnb54 := NB230_215.out
    have hnc54 := NB215_230.out
    have hnb55 := NB230_220.out
    have hnc55 := NB220_230.out
    have hcz56_0 := bc BK230 0 (.int .i64 0)
    have hcz56_1 := bc BK230 1 (.slice none 0 0)
    have hfz56_0 := blk_frozen BK230.out 0
    have hfz56_1 := blk_frozen BK230.out 1
    have hnb57 := NB215_199.out
    have hnc57 := NB199_215.out
    have hnb58 := NB215_200.out
    have hnc58 := NB200_215.out
    have hnb59 := NB215_220.out
    have hnc59 := NB220_215.out
    have hcz60_0 := bc BK215 0 (.int .i64 t210)
    have hcz60_1 := bc BK215 1 (.slice Ao30 t211.length co30)
    have hfz60_0 := blk_frozen BK215.out 0
    have hfz60_1 := blk_frozen BK215.out 1
    go_wp2_with (first | ((with_reducible refine gate_callee (f := 10) rfl ?_); refine gl (some 40) Try.func10 #[.agg #[.int .i64 t225, .slice Ao48 t226.length co48], .agg #[.int .i64 t210, .slice Ao30 t211.length co30]] ?_; (with_reducible refine (laws_eqPuzzle.calls k t225 _ _ t226 t210 _ _ t211 true _ ?side1 ?side2 ?side3 ?side4 A50.out).mono ?_); (case side1 => refine (Kd.R_reads' (e := 37) (base := w.heap.size) (ok := fun k_ => (some k_ ≠ (v204 : Value).ownBlock ∧ (some k_ ≠ (.slice Ao30 t211.length co30 : Value).ownBlock ∧ some k_ ≠ (.slice Ao40 t217.length co40 : Value).ownBlock))) (n := t226.length) (c := co48) ?_).2.2; exact (by (with_reducible repeat (first | apply Kd.R_alloc | apply Kd.R_drewN | apply Kd.R_drew)); exact (Kd.R_mono (Kd.R_far (p := ⟨gb230, 1, none⟩) (Kd.R_far (p := ⟨gb230, 0, none⟩) (Kd.R_types HO228.out BK230.out (by decide)) (fun _ hk => hk.2) (.int .i64 t225)) (fun _ hk => hk.2) (.slice Ao48 t226.length co48)) (fun _ h_ => h_.1)))); (case side2 => exact (Kd.R_reads' HO228.out).2.1); (case side3 => refine (Kd.R_reads' (e := 37) (base := w.heap.size) (ok := fun k_ => (some k_ ≠ (v204 : Value).ownBlock ∧ (some k_ ≠ (.slice Ao40 t217.length co40 : Value).ownBlock ∧ some k_ ≠ (.slice Ao48 t226.length co48 : Value).ownBlock))) (n := t211.length) (c := co30) ?_).2.2; exact (by (with_reducible repeat (first | apply Kd.R_alloc | apply Kd.R_drewN | apply Kd.R_drew)); exact (Kd.R_mono (Kd.R_far (p := ⟨gb230, 1, none⟩) (Kd.R_far (p := ⟨gb230, 0, none⟩) (Kd.R_types HO213.out BK230.out (by decide)) (fun _ hk => hk.2) (.int .i64 t225)) (fun _ hk => hk.2) (.slice Ao48 t226.length co48)) (fun _ h_ => h_.1)))); (case side4 => exact (Kd.R_reads' HO213.out).2.1); rintro e w61 ⟨rfl, hb⟩; refine ⟨_, rfl, ?_⟩; replace HO205 := Aside0.mk (Kd.R_below (by (with_reducible repeat (first | apply Kd.R_alloc | apply Kd.R_drewN | apply Kd.R_drew)); exact (Kd.R_mono (Kd.R_far (p := ⟨gb230, 1, none⟩) (Kd.R_far (p := ⟨gb230, 0, none⟩) (Kd.R_types HO205.out BK230.out (by decide)) (fun _ hk => hk.2) (.int .i64 t225)) (fun _ hk => hk.2) (.slice Ao48 t226.length co48)) (fun _ h_ => h_.1))) hb); replace HO213 := Aside0.mk (Kd.R_below (by (with_reducible repeat (first | apply Kd.R_alloc | apply Kd.R_drewN | apply Kd.R_drew)); exact (Kd.R_mono (Kd.R_far (p := ⟨gb230, 1, none⟩) (Kd.R_far (p := ⟨gb230, 0, none⟩) (Kd.R_types HO213.out BK230.out (by decide)) (fun _ hk => hk.2) (.int .i64 t225)) (fun _ hk => hk.2) (.slice Ao48 t226.length co48)) (fun _ h_ => h_.1))) hb); replace HO219 := Aside0.mk (Kd.R_below (by (with_reducible repeat (first | apply Kd.R_alloc | apply Kd.R_drewN | apply Kd.R_drew)); exact (Kd.R_mono (Kd.R_far (p := ⟨gb230, 1, none⟩) (Kd.R_far (p := ⟨gb230, 0, none⟩) (Kd.R_types HO219.out BK230.out (by decide)) (fun _ hk => hk.2) (.int .i64 t225)) (fun _ hk => hk.2) (.slice Ao48 t226.length co48)) (fun _ h_ => h_.1))) hb); replace HO228 := Aside0.mk (Kd.R_below (by (with_reducible repeat (first | apply Kd.R_alloc | apply Kd.R_drewN | apply Kd.R_drew)); exact (Kd.R_mono (Kd.R_far (p := ⟨gb230, 1, none⟩) (Kd.R_far (p := ⟨gb230, 0, none⟩) (Kd.R_types HO228.out BK230.out (by decide)) (fun _ hk => hk.2) (.int .i64 t225)) (fun _ hk => hk.2) (.slice Ao48 t226.length co48)) (fun _ h_ => h_.1))) hb); replace BK199 := Aside0.mk (blk_below (g := gb199) (o := .cells #[.int .i64 a0_0, .slice A0_1 l0_1.length c0_1] 24 (0, 0)) (by (with_reducible repeat (first | refine blk_drewN ?_ _ | refine blk_drew ?_ | refine blk_alloc ?_ _)); refine blk_far ?_ NB199_230.out _; (with_reducible repeat (first | refine blk_drewN ?_ _ | refine blk_drew ?_ | refine blk_alloc ?_ _)); refine blk_far ?_ NB199_230.out _; (with_reducible repeat (first | refine blk_drewN ?_ _ | refine blk_drew ?_ | refine blk_alloc ?_ _)); exact BK199.out) hb); replace BK200 := Aside0.mk (blk_below (g := gb200) (o := .cells #[.int .i64 a1_0, .int .i64 a1_1, .int .i64 a1_2, .int .i64 a1_3] 34 (0, 0)) (by (with_reducible repeat (first | refine blk_drewN ?_ _ | refine blk_drew ?_ | refine blk_alloc ?_ _)); refine blk_far ?_ NB200_230.out _; (with_reducible repeat (first | refine blk_drewN ?_ _ | refine blk_drew ?_ | refine blk_alloc ?_ _)); refine blk_far ?_ NB200_230.out _; (with_reducible repeat (first | refine blk_drewN ?_ _ | refine blk_drew ?_ | refine blk_alloc ?_ _)); exact BK200.out) hb); replace BK215 := Aside0.mk (blk_below (g := gb215) (o := .cells #[.int .i64 t210, .slice Ao30 t211.length co30] 29 (0, 0)) (by (with_reducible repeat (first | refine blk_drewN ?_ _ | refine blk_drew ?_ | refine blk_alloc ?_ _)); refine blk_far ?_ NB215_230.out _; (with_reducible repeat (first | refine blk_drewN ?_ _ | refine blk_drew ?_ | refine blk_alloc ?_ _)); refine blk_far ?_ NB215_230.out _; (with_reducible repeat (first | refine blk_drewN ?_ _ | refine blk_drew ?_ | refine blk_alloc ?_ _)); exact BK215.out) hb); replace BK220 := Aside0.mk (blk_below (g := gb220) (o := .cells #[.int .i64 t216, .slice Ao40 t217.length co40] 29 (0, 0)) (by (with_reducible repeat (first | refine blk_drewN ?_ _ | refine blk_drew ?_ | refine blk_alloc ?_ _)); refine blk_far ?_ NB220_230.out _; (with_reducible repeat (first | refine blk_drewN ?_ _ | refine blk_drew ?_ | refine blk_alloc ?_ _)); refine blk_far ?_ NB220_230.out _; (with_reducible repeat (first | refine blk_drewN ?_ _ | refine blk_drew ?_ | refine blk_alloc ?_ _)); exact BK220.out) hb); replace BK230 := Aside0.mk (blk_below (g := gb230) (o := .cells #[.int .i64 t225, .slice Ao48 t226.length co48] 29 (0, 0)) (by (with_reducible repeat (first | refine blk_drewN ?_ _ | refine blk_drew ?_ | refine blk_alloc ?_ _)); refine blk_put (cs := #[.int .i64 t225, .slice none 0 0]) ?_ 1 _ rfl; (with_reducible repeat (first | refine blk_drewN ?_ _ | refine blk_drew ?_ | refine blk_alloc ?_ _)); refine blk_put (cs := #[.int .i64 0, .slice none 0 0]) ?_ 0 _ rfl; (with_reducible repeat (first | refine blk_drewN ?_ _ | refine blk_drew ?_ | refine blk_alloc ?_ _)); exact BK230.out) hb); replace HB := bs hb; (try clear hb)))
    go_meet
    case rel => exact ⟨_, ((t229 != t214)), (rs), H', ⟨by first | omega | exact Nat.le_refl _⟩, ⟨by (with_reducible repeat (first | apply Kd.R_alloc | apply Kd.R_drewN | apply Kd.R_drew)); exact Kd.R_mono HO213.out (fun _ hk => ⟨hk.2.1, hk.2.2⟩)⟩, ⟨by (with_reducible repeat (first | apply Kd.R_alloc | apply Kd.R_drewN | apply Kd.R_drew)); exact Kd.R_mono HO219.out (fun _ hk => ⟨hk.2.1, hk.2.2⟩)⟩, ⟨by (with_reducible repeat (first | apply Kd.R_alloc | apply Kd.R_drewN | apply Kd.R_drew)); exact Kd.R_mono HO228.out (fun _ hk => ⟨hk.2.1, hk.2.2⟩)⟩, ⟨pk BK199⟩, ⟨pk BK200⟩, ⟨pk BK215⟩, ⟨pk BK220⟩, ⟨pk BK230⟩, ⟨bw⟩⟩
   ·replace c51 := Bool.eq_false_iff.mpr c51
    subst c51
    rw [if_neg (show ¬ (false = true) by decide)] at H
    have H' := Aside0.mk H
    clear H
    have hnb62 := NB230_199.out
    have hnc62 := NB199_230.out
    have hnb63 := NB230_200.out
    have hnc63 := NB200_230.out
    have hnb64 := NB230_215.out
    have hnc64 := NB215_230.out
    have hnb65 := NB230_220.out
    have hnc65 := NB220_230.out
    have hcz66_0 := bc BK230 0 (.int .i64 0)
    have hcz66_1 := bc BK230 1 (.slice none 0 0)
    have hfz66_0 := blk_frozen BK230.out 0
    have hfz66_1 := blk_frozen BK230.out 1
    have hnb67 := NB215_199.out
    have hnc67 := NB199_215.out
    have hnb68 := NB215_200.out
    have hnc68 := NB200_215.out
    have hnb69 := NB215_220.out
    have hnc69 := NB220_215.out
    have hcz70_0 := bc BK215 0 (.int .i64 t210)
    have hcz70_1 := bc BK215 1 (.slice Ao30 t211.length co30)
    have hfz70_0 := blk_frozen BK215.out 0
    have hfz70_1 := blk_frozen BK215.out 1
    go_wp2_with (first | ((with_reducible refine gate_callee (f := 10) rfl ?_); refine gl (some 40) Try.func10 #[.agg #[.int .i64 t225, .slice Ao48 t226.length co48], .agg #[.int .i64 t210, .slice Ao30 t211.length co30]] ?_; (with_reducible refine (laws_eqPuzzle.calls k t225 _ _ t226 t210 _ _ t211 false _ ?side1 ?side2 ?side3 ?side4 A50.out).mono ?_); (case side1 => refine (Kd.R_reads' (e := 37) (base := w.heap.size) (ok := fun k_ => (some k_ ≠ (v204 : Value).ownBlock ∧ (some k_ ≠ (.slice Ao30 t211.length co30 : Value).ownBlock ∧ some k_ ≠ (.slice Ao40 t217.length co40 : Value).ownBlock))) (n := t226.length) (c := co48) ?_).2.2; exact (by (with_reducible repeat (first | apply Kd.R_alloc | apply Kd.R_drewN | apply Kd.R_drew)); exact (Kd.R_mono (Kd.R_far (p := ⟨gb230, 1, none⟩) (Kd.R_far (p := ⟨gb230, 0, none⟩) (Kd.R_types HO228.out BK230.out (by decide)) (fun _ hk => hk.2) (.int .i64 t225)) (fun _ hk => hk.2) (.slice Ao48 t226.length co48)) (fun _ h_ => h_.1)))); (case side2 => exact (Kd.R_reads' HO228.out).2.1); (case side3 => refine (Kd.R_reads' (e := 37) (base := w.heap.size) (ok := fun k_ => (some k_ ≠ (v204 : Value).ownBlock ∧ (some k_ ≠ (.slice Ao40 t217.length co40 : Value).ownBlock ∧ some k_ ≠ (.slice Ao48 t226.length co48 : Value).ownBlock))) (n := t211.length) (c := co30) ?_).2.2; exact (by (with_reducible repeat (first | apply Kd.R_alloc | apply Kd.R_drewN | apply Kd.R_drew)); exact (Kd.R_mono (Kd.R_far (p := ⟨gb230, 1, none⟩) (Kd.R_far (p := ⟨gb230, 0, none⟩) (Kd.R_types HO213.out BK230.out (by decide)) (fun _ hk => hk.2) (.int .i64 t225)) (fun _ hk => hk.2) (.slice Ao48 t226.length co48)) (fun _ h_ => h_.1)))); (case side4 => exact (Kd.R_reads' HO213.out).2.1); rintro e w71 ⟨rfl, hb⟩; refine ⟨_, rfl, ?_⟩; replace HO205 := Aside0.mk (Kd.R_below (by (with_reducible repeat (first | apply Kd.R_alloc | apply Kd.R_drewN | apply Kd.R_drew)); exact (Kd.R_mono (Kd.R_far (p := ⟨gb230, 1, none⟩) (Kd.R_far (p := ⟨gb230, 0, none⟩) (Kd.R_types HO205.out BK230.out (by decide)) (fun _ hk => hk.2) (.int .i64 t225)) (fun _ hk => hk.2) (.slice Ao48 t226.length co48)) (fun _ h_ => h_.1))) hb); replace HO213 := Aside0.mk (Kd.R_below (by (with_reducible repeat (first | apply Kd.R_alloc | apply Kd.R_drewN | apply Kd.R_drew)); exact (Kd.R_mono (Kd.R_far (p := ⟨gb230, 1, none⟩) (Kd.R_far (p := ⟨gb230, 0, none⟩) (Kd.R_types HO213.out BK230.out (by decide)) (fun _ hk => hk.2) (.int .i64 t225)) (fun _ hk => hk.2) (.slice Ao48 t226.length co48)) (fun _ h_ => h_.1))) hb); replace HO219 := Aside0.mk (Kd.R_below (by (with_reducible repeat (first | apply Kd.R_alloc | apply Kd.R_drewN | apply Kd.R_drew)); exact (Kd.R_mono (Kd.R_far (p := ⟨gb230, 1, none⟩) (Kd.R_far (p := ⟨gb230, 0, none⟩) (Kd.R_types HO219.out BK230.out (by decide)) (fun _ hk => hk.2) (.int .i64 t225)) (fun _ hk => hk.2) (.slice Ao48 t226.length co48)) (fun _ h_ => h_.1))) hb); replace HO228 := Aside0.mk (Kd.R_below (by (with_reducible repeat (first | apply Kd.R_alloc | apply Kd.R_drewN | apply Kd.R_drew)); exact (Kd.R_mono (Kd.R_far (p := ⟨gb230, 1, none⟩) (Kd.R_far (p := ⟨gb230, 0, none⟩) (Kd.R_types HO228.out BK230.out (by decide)) (fun _ hk => hk.2) (.int .i64 t225)) (fun _ hk => hk.2) (.slice Ao48 t226.length co48)) (fun _ h_ => h_.1))) hb); replace BK199 := Aside0.mk (blk_below (g := gb199) (o := .cells #[.int .i64 a0_0, .slice A0_1 l0_1.length c0_1] 24 (0, 0)) (by (with_reducible repeat (first | refine blk_drewN ?_ _ | refine blk_drew ?_ | refine blk_alloc ?_ _)); refine blk_far ?_ NB199_230.out _; (with_reducible repeat (first | refine blk_drewN ?_ _ | refine blk_drew ?_ | refine blk_alloc ?_ _)); refine blk_far ?_ NB199_230.out _; (with_reducible repeat (first | refine blk_drewN ?_ _ | refine blk_drew ?_ | refine blk_alloc ?_ _)); exact BK199.out) hb); replace BK200 := Aside0.mk (blk_below (g := gb200) (o := .cells #[.int .i64 a1_0, .int .i64 a1_1, .int .i64 a1_2, .int .i64 a1_3] 34 (0, 0)) (by (with_reducible repeat (first | refine blk_drewN ?_ _ | refine blk_drew ?_ | refine blk_alloc ?_ _)); refine blk_far ?_ NB200_230.out _; (with_reducible repeat (first | refine blk_drewN ?_ _ | refine blk_drew ?_ | refine blk_alloc ?_ _)); refine blk_far ?_ NB200_230.out _; (with_reducible repeat (first | refine blk_drewN ?_ _ | refine blk_drew ?_ | refine blk_alloc ?_ _)); exact BK200.out) hb); replace BK215 := Aside0.mk (blk_below (g := gb215) (o := .cells #[.int .i64 t210, .slice Ao30 t211.length co30] 29 (0, 0)) (by (with_reducible repeat (first | refine blk_drewN ?_ _ | refine blk_drew ?_ | refine blk_alloc ?_ _)); refine blk_far ?_ NB215_230.out _; (with_reducible repeat (first | refine blk_drewN ?_ _ | refine blk_drew ?_ | refine blk_alloc ?_ _)); refine blk_far ?_ NB215_230.out _; (with_reducible repeat (first | refine blk_drewN ?_ _ | refine blk_drew ?_ | refine blk_alloc ?_ _)); exact BK215.out) hb); replace BK220 := Aside0.mk (blk_below (g := gb220) (o := .cells #[.int .i64 t216, .slice Ao40 t217.length co40] 29 (0, 0)) (by (with_reducible repeat (first | refine blk_drewN ?_ _ | refine blk_drew ?_ | refine blk_alloc ?_ _)); refine blk_far ?_ NB220_230.out _; (with_reducible repeat (first | refine blk_drewN ?_ _ | refine blk_drew ?_ | refine blk_alloc ?_ _)); refine blk_far ?_ NB220_230.out _; (with_reducible repeat (first | refine blk_drewN ?_ _ | refine blk_drew ?_ | refine blk_alloc ?_ _)); exact BK220.out) hb); replace BK230 := Aside0.mk (blk_below (g := gb230) (o := .cells #[.int .i64 t225, .slice Ao48 t226.length co48] 29 (0, 0)) (by (with_reducible repeat (first | refine blk_drewN ?_ _ | refine blk_drew ?_ | refine blk_alloc ?_ _)); refine blk_put (cs := #[.int .i64 t225, .slice none 0 0]) ?_ 1 _ rfl; (with_reducible repeat (first | refine blk_drewN ?_ _ | refine blk_drew ?_ | refine blk_alloc ?_ _)); refine blk_put (cs := #[.int .i64 0, .slice none 0 0]) ?_ 0 _ rfl; (with_reducible repeat (first | refine blk_drewN ?_ _ | refine blk_drew ?_ | refine blk_alloc ?_ _)); exact BK230.out) hb); replace HB := bs hb; (try clear hb)))
    go_meet
    case rel => exact ⟨_, (true), (rs), H', ⟨by first | omega | exact Nat.le_refl _⟩, ⟨by (with_reducible repeat (first | apply Kd.R_alloc | apply Kd.R_drewN | apply Kd.R_drew)); exact Kd.R_mono HO213.out (fun _ hk => ⟨hk.2.1, hk.2.2⟩)⟩, ⟨by (with_reducible repeat (first | apply Kd.R_alloc | apply Kd.R_drewN | apply Kd.R_drew)); exact Kd.R_mono HO219.out (fun _ hk => ⟨hk.2.1, hk.2.2⟩)⟩, ⟨by (with_reducible repeat (first | apply Kd.R_alloc | apply Kd.R_drewN | apply Kd.R_drew)); exact Kd.R_mono HO228.out (fun _ hk => ⟨hk.2.1, hk.2.2⟩)⟩, ⟨pk BK199⟩, ⟨pk BK200⟩, ⟨pk BK215⟩, ⟨pk BK220⟩, ⟨pk BK230⟩, ⟨bw⟩⟩
  case rest =>
   clear HC16
   try clear c1
   try clear p2
   try clear c5
   try clear c6
   try clear c10
   try clear c12
   try clear c13
   try clear c51
   try clear c52
   try clear c53
   try clear c54
   try clear c55
   try clear c57
   try clear c58
   try clear c59
   try clear c62
   try clear c63
   try clear c64
   try clear c65
   try clear c67
   try clear c68
   try clear c69
   try clear hcz56_0
   try clear hcz56_1
   try clear hcz60_0
   try clear hcz60_1
   try clear hcz66_0
   try clear hcz66_1
   try clear hcz70_0
   try clear hcz70_1
   try clear hfz56_0
   try clear hfz56_1
   try clear hfz60_0
   try clear hfz60_1
   try clear hfz66_0
   try clear hfz66_1
   try clear hfz70_0
   try clear hfz70_1
   obtain ⟨kq, x46_15, rfl, HA, HJ15, HO_216001, HO_221001, HO_231001, BK199, BK200, BK215, BK220, BK230, HB⟩ := hcut
   cases kq with
   | zero => exact absurd HA.out (by simp [laws_FnExactAddClue.j0])
   | succ kj15 =>
    have H := HA.out
    clear HA
    simp only [laws_FnExactAddClue.j0] at H
    by_cases c72 : x46_15 = true
    ·subst c72
     rw [if_pos rfl] at H
     exact absurd (Option.some.inj H) (by rw [HRT.out]; decide)
    ·replace c72 := Bool.eq_false_iff.mpr c72
     subst c72
     rw [if_neg (show ¬ (false = true) by decide)] at H
     replace H := Option.bind_eq_some_iff.mp H
     obtain ⟨⟨t232, t233⟩, A730, H⟩ := H
     (try dsimp only at H)
     have A73 := Aside0.mk A730
     clear A730
     replace H := Option.bind_eq_some_iff.mp H
     obtain ⟨t236, A740, H⟩ := H
     (try dsimp only at H)
     have A74 := Aside0.mk A740
     clear A740
     by_cases c75 : t236 = true
     ·subst c75
      rw [if_pos rfl] at H
      replace H := Option.bind_eq_some_iff.mp H
      obtain ⟨⟨t237, t238⟩, A760, H⟩ := H
      (try dsimp only at H)
      have A76 := Aside0.mk A760
      clear A760
      have HC77 := Aside0.mk H
      clear H
      try go_wp2
      replace HO_216001 := Aside0.mk (Kd.R_drew HO_216001.out)
      replace HO_221001 := Aside0.mk (Kd.R_drew HO_221001.out)
      replace HO_231001 := Aside0.mk (Kd.R_drew HO_231001.out)
      replace BK199 := Aside0.mk (blk_drew BK199.out)
      replace BK200 := Aside0.mk (blk_drew BK200.out)
      replace BK215 := Aside0.mk (blk_drew BK215.out)
      replace BK220 := Aside0.mk (blk_drew BK220.out)
      replace BK230 := Aside0.mk (blk_drew BK230.out)
      replace HB := Aside0.mk (below_drew1 HB.out)
      refine start_ (n := 5) (S := fun w' => w'.cell? ⟨gb220, 0, none⟩ = some (.int .i64 t216) ∧ w'.cell? ⟨gb220, 1, none⟩ = some (.slice Ao40 t217.length co40) ∧ w'.cell? ⟨gb199, 0, none⟩ = some (.int .i64 a0_0) ∧ w'.cell? ⟨gb199, 1, none⟩ = some (.slice A0_1 l0_1.length c0_1)) (ds := []) #[false, false, false, false, false] (by kernel_rfl) rfl rfl ⟨ec BK220, ec BK220, ec BK199, ec BK199⟩ (fun hHeld => ?_)
      generalize wc.drew = w78 at HO_216001 HO_221001 HO_231001 BK199 BK200 BK215 BK220 BK230 HB hHeld ⊢
      refine take_ (i := 0) (N := some 47) (v := ?_) (a' := ?_) #[true, false, false, false, false] rfl rfl (by kernel_rfl) (fun _ _ _ h => h) (Or.inl ⟨by rfl, ?_⟩) hHeld ?_ ?_
      rotate_left
      ·rintro w' ⟨s0, s1, s2, s3⟩
       go_simp
       with_reducible rfl
      rotate_left
      ·simp only [Act.put, List.setIfInBounds_toArray, List.set_cons_zero, List.set_cons_succ, i64_w, i32_w]
       rfl
      refine take_ (i := 1) (N := some 48) (v := ?_) (a' := ?_) #[true, true, false, false, false] rfl rfl (by kernel_rfl) (fun _ _ _ h => h) (Or.inl ⟨by rfl, ?_⟩) hHeld ?_ ?_
      rotate_left
      ·rintro w' ⟨s0, s1, s2, s3⟩
       go_simp
       with_reducible rfl
      rotate_left
      ·simp only [Act.put, List.setIfInBounds_toArray, List.set_cons_zero, List.set_cons_succ, i64_w, i32_w]
       rfl
      refine one_ (i := 2) (N := some 49) #[true, true, true, false, false] rfl rfl (by kernel_rfl) (by decide) (fun K hK => ?_)
      refine goes_ Try.func8 (by kernel_rfl) rfl #[.agg #[.int .i64 a0_0, .slice A0_1 l0_1.length c0_1]] (by rfl) rfl rfl (by (try simp only [List.map_toArray, List.map_cons, List.map_nil]); first | done | rfl | (simp only [List.length_drop, List.length_take]; rfl)) ?_
      with_reducible refine (laws_toPuzzle.calls kj15 a0_0 _ _ l0_1 t232 t233 _ ?side1 ?side2 A73.out).mono ?_
      (case side1 => repeat (first | exact (Kd.C_below HR0_1.out HB.out) | (with_reducible refine Kd.C_alloc ?_ _) | (with_reducible refine Kd.C_drewN ?_ _) | (with_reducible refine Kd.C_drew ?_)))
      (case side2 => exact HC0_1.out)
      rintro e w79 ⟨v234, rfl, ho0, hb⟩
      refine ⟨_, rfl, ?_⟩
      have HO235 := Aside0.mk (Kd.R_lower (Kd.R_new' (Kd.R_new' (Kd.R_new' ho0 (Kd.R_lt (pr HO_216001))) (Kd.R_lt (pr HO_221001))) (Kd.R_lt (pr HO_231001))) (below_size bw))
      replace HO_216001 := Aside0.mk (Kd.R_elder' (pr HO_216001) (Kd.R_base ho0) hb)
      replace HO_221001 := Aside0.mk (Kd.R_elder' (pr HO_221001) (Kd.R_base ho0) hb)
      replace HO_231001 := Aside0.mk (Kd.R_elder' (pr HO_231001) (Kd.R_base ho0) hb)
      replace BK199 := nk BK199 hb
      replace BK200 := nk BK200 hb
      replace BK215 := nk BK215 hb
      replace BK220 := nk BK220 hb
      replace BK230 := nk BK230 hb
      replace HB := bs hb
      (try clear hb)
      (try clear ho0)
      obtain ⟨Ao80, co80, eo80⟩ := Kd.R_slice HO235.out
      (first | subst eo80 | (injection eo80 with f1_ f2_ f3_; have f4_ := f1_.symm; have f5_ := f3_.symm; clear f1_ f2_ f3_; subst f4_; subst f5_))
      refine hK.out _ _ ⟨ec BK220, ec BK220, ec BK199, ec BK199⟩ (fun hHeld => ?_)
      clear hK K
      refine nm (some 49) ?_
      refine one_ (i := 3) (N := some 50) #[true, true, true, true, false] rfl rfl (by kernel_rfl) (by decide) (fun K hK => ?_)
      refine goes_ Try.func10 (by kernel_rfl) rfl #[.agg #[.int .i64 t216, .slice Ao40 t217.length co40], .agg #[.int .i64 t232, .slice Ao80 t233.length co80]] (by rfl) rfl rfl (by (try simp only [List.map_toArray, List.map_cons, List.map_nil]); first | done | rfl | (simp only [List.length_drop, List.length_take]; rfl)) ?_
      with_reducible refine (laws_eqPuzzle.calls kj15 t216 _ _ t217 t232 _ _ t233 true _ ?side1 ?side2 ?side3 ?side4 A74.out).mono ?_
      (case side1 => repeat (first | exact (Kd.R_reads' HO_221001.out).2.2 | (with_reducible refine Kd.C_alloc ?_ _) | (with_reducible refine Kd.C_drewN ?_ _) | (with_reducible refine Kd.C_drew ?_)))
      (case side2 => exact (Kd.R_reads' HO_221001.out).2.1)
      (case side3 => repeat (first | exact (Kd.R_reads' HO235.out).2.2 | (with_reducible refine Kd.C_alloc ?_ _) | (with_reducible refine Kd.C_drewN ?_ _) | (with_reducible refine Kd.C_drew ?_)))
      (case side4 => exact (Kd.R_reads' HO235.out).2.1)
      rintro e w81 ⟨rfl, hb⟩
      refine ⟨_, rfl, ?_⟩
      replace HO_216001 := Aside0.mk (Kd.R_below (pr HO_216001) hb)
      replace HO_221001 := Aside0.mk (Kd.R_below (pr HO_221001) hb)
      replace HO_231001 := Aside0.mk (Kd.R_below (pr HO_231001) hb)
      replace HO235 := Aside0.mk (Kd.R_below (pr HO235) hb)
      replace BK199 := nk BK199 hb
      replace BK200 := nk BK200 hb
      replace BK215 := nk BK215 hb
      replace BK220 := nk BK220 hb
      replace BK230 := nk BK230 hb
      replace HB := bs hb
      (try clear hb)
      refine hK.out _ _ ⟨ec BK220, ec BK220, ec BK199, ec BK199⟩ (fun hHeld => ?_)
      clear hK K
      refine nm (some 50) ?_
      refine pure_ (i := 4) (N := some 51) (v := ?_) (a' := ?_) #[true, true, true, true, true] rfl rfl (by kernel_rfl) (fun _ _ _ h => h) (Or.inl ⟨by rfl, ?_⟩) ?_ ?_
      rotate_left
      ·intro w'
       go_simp
       with_reducible rfl
      rotate_left
      ·simp only [Act.put, List.setIfInBounds_toArray, List.set_cons_zero, List.set_cons_succ, i64_w, i32_w]
       rfl
      refine done_ (by kernel_rfl) ?_
      have hnb82 := NB220_199.out
      have hnc82 := NB199_220.out
      have hnb83 := NB220_200.out
      have hnc83 := NB200_220.out
      have hnb84 := NB220_215.out
      have hnc84 := NB215_220.out
      have hnb85 := NB220_230.out
      have hnc85 := NB230_220.out
      have hcz86_0 := bc BK220 0 (.int .i64 t216)
      have hcz86_1 := bc BK220 1 (.slice Ao40 t217.length co40)
      have hfz86_0 := blk_frozen BK220.out 0
      have hfz86_1 := blk_frozen BK220.out 1
      go_upto_region 14 with (first | ((with_reducible refine gate_callee (f := 14) rfl ?_); refine gl (some 54) Try.func14 #[.agg #[.int .i64 t216, .slice Ao40 t217.length co40], .int .i64 1] ?_; (with_reducible refine (laws_markPuzzle.calls kj15 t216 (fun k_ => some k_ = (.slice Ao40 t217.length co40 : Value).ownBlock) (.slice Ao40 t217.length co40) t217 1 t237 t238 w _ ?side1 ?side2 A76.out).mono ?_); (case side1 => repeat (first | (with_reducible first | exact HB.out | apply below_alloc | apply pw_below_drewN | apply below_drew1 | refine below_set ?_ GE199.out | refine below_set ?_ GE200.out | refine below_set ?_ GE215.out | refine below_set ?_ GE220.out | refine below_set ?_ GE230.out) | exact HB.out)); (case side2 => exact Kd.R_tight rfl HO_221001.out); rintro e w87 ⟨rfl, hy0, hb, hkp⟩; refine ⟨_, rfl, ?_⟩; replace HO_216001 := Aside0.mk (Kd.R_mono (ok' := fun k_ => some k_ ≠ (.slice Ao40 t217.length co40 : Value).ownBlock ∧ some k_ ≠ (.slice Ao48 t226.length co48 : Value).ownBlock ∧ some k_ ≠ (.slice Ao80 t233.length co80 : Value).ownBlock) (Kd.R_keptB (HO_216001.out) hkp (fun k_ hk_ hs_ => (hk_.1.1) hs_)) (fun k_ hk_ => ⟨hk_.1.1.1, hk_.1.1.2, hk_.1.2⟩)); replace HO_231001 := Aside0.mk (Kd.R_mono (ok' := fun k_ => some k_ ≠ (.slice Ao30 t211.length co30 : Value).ownBlock ∧ some k_ ≠ (.slice Ao40 t217.length co40 : Value).ownBlock ∧ some k_ ≠ (.slice Ao80 t233.length co80 : Value).ownBlock) (Kd.R_keptB (HO_231001.out) hkp (fun k_ hk_ hs_ => (hk_.1.2) hs_)) (fun k_ hk_ => ⟨hk_.1.1.1, hk_.1.1.2, hk_.1.2⟩)); replace BK199 := Aside0.mk (blk_kept (pk BK199) hkp (fun hs_ => (fun e_ => (Kd.R_ne HO_221001.out BK199.out (by decide)) e_) hs_)); replace BK200 := Aside0.mk (blk_kept (pk BK200) hkp (fun hs_ => (fun e_ => (Kd.R_ne HO_221001.out BK200.out (by decide)) e_) hs_)); replace BK215 := Aside0.mk (blk_kept (pk BK215) hkp (fun hs_ => (fun e_ => (Kd.R_ne HO_221001.out BK215.out (by decide)) e_) hs_)); replace BK220 := Aside0.mk (blk_kept (pk BK220) hkp (fun hs_ => (fun e_ => (Kd.R_ne HO_221001.out BK220.out (by decide)) e_) hs_)); replace BK230 := Aside0.mk (blk_kept (pk BK230) hkp (fun hs_ => (fun e_ => (Kd.R_ne HO_221001.out BK230.out (by decide)) e_) hs_)); replace HO_221001 := Aside0.mk (Kd.R_reok rfl hy0 (fun k_ e_ => HO_221001.out.1 k_ e_)); replace HO235 := Aside0.mk (Kd.R_mono (ok' := fun k_ => some k_ ≠ (.slice Ao30 t211.length co30 : Value).ownBlock ∧ some k_ ≠ (.slice Ao40 t217.length co40 : Value).ownBlock ∧ some k_ ≠ (.slice Ao48 t226.length co48 : Value).ownBlock) (Kd.R_keptB (HO235.out) hkp (fun k_ hk_ hs_ => (hk_.1.2) hs_)) (fun k_ hk_ => ⟨hk_.1.1.1.2, hk_.1.1.2, hk_.1.2⟩)); replace HB := Aside0.mk (hb); (try clear hb); (try clear hkp); (try clear hy0)))
      (try simp only [Act.put, List.setIfInBounds_toArray, List.set_cons_zero, List.set_cons_succ])
      go_cut [67] (fun v67 wc => ∃ (kq : Nat) (x67_76 : Bool), v67 = .bool x67_76 ∧ Aside0 (laws_FnExactAddClue.j1 kq t214 x67_76 a0_0 l0_1 a1_0 a1_1 a1_2 a1_3 t210 t211 t225 t226 = some r) ∧ Aside0 (kq ≤ kj15) ∧ Aside0 (Kd.R k37 37 wc w.heap.size (fun k_ => some k_ ≠ ((.slice Ao40 t217.length co40) : Value).ownBlock ∧ some k_ ≠ ((.slice Ao48 t226.length co48) : Value).ownBlock) (.slice Ao30 t211.length co30) t211) ∧ Aside0 (Kd.R k37 37 wc w.heap.size (fun k_ => some k_ ≠ ((.slice Ao30 t211.length co30) : Value).ownBlock ∧ some k_ ≠ ((.slice Ao48 t226.length co48) : Value).ownBlock) (.slice Ao40 t217.length co40) t238) ∧ Aside0 (Kd.R k37 37 wc w.heap.size (fun k_ => some k_ ≠ ((.slice Ao30 t211.length co30) : Value).ownBlock ∧ some k_ ≠ ((.slice Ao40 t217.length co40) : Value).ownBlock) (.slice Ao48 t226.length co48) t226) ∧ Aside0 (wc.heap[gb199]? = some (.cells #[.int .i64 a0_0, (.slice A0_1 l0_1.length c0_1)] 24 (0, 0))) ∧ Aside0 (wc.heap[gb200]? = some (.cells #[.int .i64 a1_0, .int .i64 a1_1, .int .i64 a1_2, .int .i64 a1_3] 34 (0, 0))) ∧ Aside0 (wc.heap[gb215]? = some (.cells #[.int .i64 t210, (.slice Ao30 t211.length co30)] 29 (0, 0))) ∧ Aside0 (wc.heap[gb220]? = some (.cells #[.int .i64 t216, (.slice Ao40 t217.length co40)] 29 (0, 0))) ∧ Aside0 (wc.heap[gb230]? = some (.cells #[.int .i64 t225, (.slice Ao48 t226.length co48)] 29 (0, 0))) ∧ Aside0 (Below w.heap.size w wc))
      case first =>
       have H := HC77.out
       clear HC77
       by_cases c88 : t237 < 0
       ·rw [if_pos c88] at H
        have c88b0 : decide (t237 < 0) = true := decide_eq_true c88
        clear c88
        (first | rw [c88b0] | (simp only [i64_w, i32_w]; rw [c88b0]) | skip)
        have H' := Aside0.mk H
        clear H
        go_wp2
        go_meet
        case rel => exact ⟨_, (true), (rs), H', ⟨by have := HJ15.out; first | omega | exact Nat.le_refl _⟩, ⟨by (with_reducible repeat (first | apply Kd.R_alloc | apply Kd.R_drewN | apply Kd.R_drew)); exact Kd.R_mono HO_216001.out (fun _ hk => ⟨hk.1, hk.2.1⟩)⟩, ⟨by (with_reducible repeat (first | apply Kd.R_alloc | apply Kd.R_drewN | apply Kd.R_drew)); exact Kd.R_mono HO_221001.out (fun _ hk => ⟨hk.1.1, hk.1.2⟩)⟩, ⟨by (with_reducible repeat (first | apply Kd.R_alloc | apply Kd.R_drewN | apply Kd.R_drew)); exact Kd.R_mono HO_231001.out (fun _ hk => ⟨hk.1, hk.2.1⟩)⟩, ⟨pk BK199⟩, ⟨pk BK200⟩, ⟨pk BK215⟩, ⟨pk BK220⟩, ⟨pk BK230⟩, ⟨bw⟩⟩
       ·rw [if_neg c88] at H
        have c88b0 : decide (t237 < 0) = false := decide_eq_false c88
        clear c88
        (first | rw [c88b0] | (simp only [i64_w, i32_w]; rw [c88b0]) | skip)
        replace H := Option.bind_eq_some_iff.mp H
        obtain ⟨t239, A890, H⟩ := H
        (try dsimp only at H)
        have A89 := Aside0.mk A890
        clear A890
        by_cases c90 : t239 = true
        ·subst c90
         rw [if_pos rfl] at H
         have H' := Aside0.mk H
         clear H
         have hnb91 := NB230_199.out
         have hnc91 := NB199_230.out
         have hnb92 := NB230_200.out
         have hnc92 := NB200_230.out
         have hnb93 := NB230_215.out
         have hnc93 := NB215_230.out
         have hnb94 := NB230_220.out
         have hnc94 := NB220_230.out
         have hcz95_0 := bc BK230 0 (.int .i64 t225)
         have hcz95_1 := bc BK230 1 (.slice Ao48 t226.length co48)
         have hfz95_0 := blk_frozen BK230.out 0
         have hfz95_1 := blk_frozen BK230.out 1
         have hnb96 := NB215_199.out
         have hnc96 := NB199_215.out
         have hnb97 := NB215_200.out
         have hnc97 := NB200_215.out
         have hnb98 := NB215_220.out
         have hnc98 := NB220_215.out
         have hcz99_0 := bc BK215 0 (.int .i64 t210)
         have hcz99_1 := bc BK215 1 (.slice Ao30 t211.length co30)
         have hfz99_0 := blk_frozen BK215.out 0
         have hfz99_1 := blk_frozen BK215.out 1
         go_wp2_with (first | (go_at_call 10; (with_reducible refine (laws_eqPuzzle.calls kj15 t225 _ _ t226 t210 _ _ t211 true _ ?side1 ?side2 ?side3 ?side4 A89.out).mono ?_); (case side1 => repeat (first | exact (Kd.R_reads' HO_231001.out).2.2 | (with_reducible refine Kd.C_alloc ?_ _) | (with_reducible refine Kd.C_drewN ?_ _) | (with_reducible refine Kd.C_drew ?_))); (case side2 => exact (Kd.R_reads' HO_231001.out).2.1); (case side3 => repeat (first | exact (Kd.R_reads' HO_216001.out).2.2 | (with_reducible refine Kd.C_alloc ?_ _) | (with_reducible refine Kd.C_drewN ?_ _) | (with_reducible refine Kd.C_drew ?_))); (case side4 => exact (Kd.R_reads' HO_216001.out).2.1); rintro e w100 ⟨rfl, hb⟩; replace HO_216001 := Aside0.mk (Kd.R_below (pr HO_216001) hb); replace HO_221001 := Aside0.mk (Kd.R_below (pr HO_221001) hb); replace HO_231001 := Aside0.mk (Kd.R_below (pr HO_231001) hb); replace HO235 := Aside0.mk (Kd.R_below (pr HO235) hb); replace BK199 := nk BK199 hb; replace BK200 := nk BK200 hb; replace BK215 := nk BK215 hb; replace BK220 := nk BK220 hb; replace BK230 := nk BK230 hb; replace HB := bs hb; (try clear hb)))
         go_meet
         case rel => exact ⟨_, ((t229 != t214)), (rs), H', ⟨by have := HJ15.out; first | omega | exact Nat.le_refl _⟩, ⟨by (with_reducible repeat (first | apply Kd.R_alloc | apply Kd.R_drewN | apply Kd.R_drew)); exact Kd.R_mono HO_216001.out (fun _ hk => ⟨hk.1, hk.2.1⟩)⟩, ⟨by (with_reducible repeat (first | apply Kd.R_alloc | apply Kd.R_drewN | apply Kd.R_drew)); exact Kd.R_mono HO_221001.out (fun _ hk => ⟨hk.1.1, hk.1.2⟩)⟩, ⟨by (with_reducible repeat (first | apply Kd.R_alloc | apply Kd.R_drewN | apply Kd.R_drew)); exact Kd.R_mono HO_231001.out (fun _ hk => ⟨hk.1, hk.2.1⟩)⟩, ⟨pk BK199⟩, ⟨pk BK200⟩, ⟨pk BK215⟩, ⟨pk BK220⟩, ⟨pk BK230⟩, ⟨bw⟩⟩
        ·replace c90 := Bool.eq_false_iff.mpr c90
         subst c90
         rw [if_neg (show ¬ (false = true) by decide)] at H
         have H' := Aside0.mk H
         clear H
         have hnb101 := NB230_199.out
         have hnc101 := NB199_230.out
         have hnb102 := NB230_200.out
         have hnc102 := NB200_230.out
         have hnb103 := NB230_215.out
         have hnc103 := NB215_230.out
         have hnb104 := NB230_220.out
         have hnc104 := NB220_230.out
         have hcz105_0 := bc BK230 0 (.int .i64 t225)
         have hcz105_1 := bc BK230 1 (.slice Ao48 t226.length co48)
         have hfz105_0 := blk_frozen BK230.out 0
         have hfz105_1 := blk_frozen BK230.out 1
         have hnb106 := NB215_199.out
         have hnc106 := NB199_215.out
         have hnb107 := NB215_200.out
         have hnc107 := NB200_215.out
         have hnb108 := NB215_220.out
         have hnc108 := NB220_215.out
         have hcz109_0 := bc BK215 0 (.int .i64 t210)
         have hcz109_1 := bc BK215 1 (.slice Ao30 t211.length co30)
         have hfz109_0 := blk_frozen BK215.out 0
         have hfz109_1 := blk_frozen BK215.out 1
         go_wp2_with (first | (go_at_call 10; (with_reducible refine (laws_eqPuzzle.calls kj15 t225 _ _ t226 t210 _ _ t211 false _ ?side1 ?side2 ?side3 ?side4 A89.out).mono ?_); (case side1 => repeat (first | exact (Kd.R_reads' HO_231001.out).2.2 | (with_reducible refine Kd.C_alloc ?_ _) | (with_reducible refine Kd.C_drewN ?_ _) | (with_reducible refine Kd.C_drew ?_))); (case side2 => exact (Kd.R_reads' HO_231001.out).2.1); (case side3 => repeat (first | exact (Kd.R_reads' HO_216001.out).2.2 | (with_reducible refine Kd.C_alloc ?_ _) | (with_reducible refine Kd.C_drewN ?_ _) | (with_reducible refine Kd.C_drew ?_))); (case side4 => exact (Kd.R_reads' HO_216001.out).2.1); rintro e w110 ⟨rfl, hb⟩; replace HO_216001 := Aside0.mk (Kd.R_below (pr HO_216001) hb); replace HO_221001 := Aside0.mk (Kd.R_below (pr HO_221001) hb); replace HO_231001 := Aside0.mk (Kd.R_below (pr HO_231001) hb); replace HO235 := Aside0.mk (Kd.R_below (pr HO235) hb); replace BK199 := nk BK199 hb; replace BK200 := nk BK200 hb; replace BK215 := nk BK215 hb; replace BK220 := nk BK220 hb; replace BK230 := nk BK230 hb; replace HB := bs hb; (try clear hb)))
         go_meet
         case rel => exact ⟨_, (true), (rs), H', ⟨by have := HJ15.out; first | omega | exact Nat.le_refl _⟩, ⟨by (with_reducible repeat (first | apply Kd.R_alloc | apply Kd.R_drewN | apply Kd.R_drew)); exact Kd.R_mono HO_216001.out (fun _ hk => ⟨hk.1, hk.2.1⟩)⟩, ⟨by (with_reducible repeat (first | apply Kd.R_alloc | apply Kd.R_drewN | apply Kd.R_drew)); exact Kd.R_mono HO_221001.out (fun _ hk => ⟨hk.1.1, hk.1.2⟩)⟩, ⟨by (with_reducible repeat (first | apply Kd.R_alloc | apply Kd.R_drewN | apply Kd.R_drew)); exact Kd.R_mono HO_231001.out (fun _ hk => ⟨hk.1, hk.2.1⟩)⟩, ⟨pk BK199⟩, ⟨pk BK200⟩, ⟨pk BK215⟩, ⟨pk BK220⟩, ⟨pk BK230⟩, ⟨bw⟩⟩
      case rest =>
       clear HC77
       try clear c1
       try clear p2
       try clear c5
       try clear c6
       try clear c7
       try clear c8
       try clear c9
       try clear c10
       try clear c12
       try clear c13
       try clear c14
       try clear c51
       try clear c52
       try clear c53
       try clear c54
       try clear c55
       try clear c57
       try clear c58
       try clear c59
       try clear c62
       try clear c63
       try clear c64
       try clear c65
       try clear c67
       try clear c68
       try clear c69
       try clear c72
       try clear c75
       try clear c82
       try clear c83
       try clear c84
       try clear c85
       try clear c88
       try clear c88b0
       try clear c90
       try clear c91
       try clear c92
       try clear c93
       try clear c94
       try clear c96
       try clear c97
       try clear c98
       try clear c101
       try clear c102
       try clear c103
       try clear c104
       try clear c106
       try clear c107
       try clear c108
       try clear hcz105_0
       try clear hcz105_1
       try clear hcz109_0
       try clear hcz109_1
       try clear hcz56_0
       try clear hcz56_1
       try clear hcz60_0
       try clear hcz60_1
       try clear hcz66_0
       try clear hcz66_1
       try clear hcz70_0
       try clear hcz70_1
       try clear hcz86_0
       try clear hcz86_1
       try clear hcz95_0
       try clear hcz95_1
       try clear hcz99_0
       try clear hcz99_1
       try clear hfz105_0
       try clear hfz105_1
       try clear hfz109_0
       try clear hfz109_1
       try clear hfz56_0
       try clear hfz56_1
       try clear hfz60_0
       try clear hfz60_1
       try clear hfz66_0
       try clear hfz66_1
       try clear hfz70_0
       try clear hfz70_1
       try clear hfz86_0
       try clear hfz86_1
       try clear hfz95_0
       try clear hfz95_1
       try clear hfz99_0
       try clear hfz99_1
       try clear p2
       obtain ⟨kq, x67_76, rfl, HA, HJ76, HO_216001, HO_221001, HO_231001, BK199, BK200, BK215, BK220, BK230, HB⟩ := hcut
       have hl221001_76 := (Kd.R_reads' HO_221001.out).1
       rw [hl221001_76] at HO_221001
       (try simp only [hl221001_76])
       (try simp only [hl221001_76] at BK199)
       (try simp only [hl221001_76] at BK200)
       (try simp only [hl221001_76] at BK215)
       (try simp only [hl221001_76] at BK220)
       (try simp only [hl221001_76] at BK230)
       (try simp only [hl221001_76] at HO_216001)
       (try simp only [hl221001_76] at HO_231001)
       cases kq with
       | zero => exact absurd HA.out (by simp [laws_FnExactAddClue.j1])
       | succ kj76 =>
        have H := HA.out
        clear HA
        simp only [laws_FnExactAddClue.j1] at H
        by_cases c111 : x67_76 = true
        ·subst c111
         rw [if_pos rfl] at H
         exact absurd (Option.some.inj H) (by rw [HRT.out]; decide)
        ·replace c111 := Bool.eq_false_iff.mpr c111
         subst c111
         rw [if_neg (show ¬ (false = true) by decide)] at H
         replace H := Option.bind_eq_some_iff.mp H
         obtain ⟨⟨t240, t241⟩, A1120, H⟩ := H
         (try dsimp only at H)
         have A112 := Aside0.mk A1120
         clear A1120
         replace H := Option.bind_eq_some_iff.mp H
         obtain ⟨t242, A1130, H⟩ := H
         (try dsimp only at H)
         have A113 := Aside0.mk A1130
         clear A1130
         by_cases c114 : t242 < 0
         ·rw [if_pos c114] at H
          have c114b0 : decide (t242 < 0) = true := decide_eq_true c114
          clear c114
          exact absurd (Option.some.inj H) (by rw [HRT.out]; decide)
         ·rw [if_neg c114] at H
          have c114b0 : decide (t242 < 0) = false := decide_eq_false c114
          clear c114
          by_cases c115 : t242 = t240
          ·rw [if_pos c115] at H
           have c115b0 : (t242 == t240) = true := beq_iff_eq.mpr c115
           have c115b1 : (t242 != t240) = false := bne_eq_false_iff_eq.mpr c115
           clear c115
           replace H := Option.bind_eq_some_iff.mp H
           obtain ⟨⟨t243, t244⟩, A1160, H⟩ := H
           (try dsimp only at H)
           have A116 := Aside0.mk A1160
           clear A1160
           replace H := Option.bind_eq_some_iff.mp H
           obtain ⟨⟨t247, t248, t249, t250⟩, A1170, H⟩ := H
           (try dsimp only at H)
           have A117 := Aside0.mk A1170
           clear A1170
           replace H := Option.bind_eq_some_iff.mp H
           obtain ⟨⟨t251, t252, t255⟩, A1180, H⟩ := H
           (try dsimp only at H)
           have A118 := Aside0.mk A1180
           clear A1180
           have HC119 := Aside0.mk H
           clear H
           have hnb120 := NB230_199.out
           have hnc120 := NB199_230.out
           have hnb121 := NB230_200.out
           have hnc121 := NB200_230.out
           have hnb122 := NB230_215.out
           have hnc122 := NB215_230.out
           have hnb123 := NB230_220.out
           have hnc123 := NB220_230.out
           have hcz124_0 : wc.cell? ⟨gb230, 0, none⟩ = some (.int .i64 t225) := ec BK230
           have hcz124_1 : wc.cell? ⟨gb230, 1, none⟩ = some (.slice Ao48 t226.length co48) := ec BK230
           have hfz124_0 := blk_frozen BK230.out 0
           have hfz124_1 := blk_frozen BK230.out 1
           try go_wp2_with (first | ((with_reducible refine gate_callee (f := 14) rfl ?_); refine gl (some 70) Try.func14 #[.agg #[.int .i64 t225, .slice Ao48 t226.length co48], .int .i64 1] ?_; (with_reducible refine (laws_markPuzzle.calls kj76 t225 (fun k_ => some k_ = (.slice Ao48 t226.length co48 : Value).ownBlock) (.slice Ao48 t226.length co48) t226 1 t240 t241 w _ ?side1 ?side2 A112.out).mono ?_); (case side1 => repeat (first | (with_reducible first | exact HB.out | apply below_alloc | apply pw_below_drewN | apply below_drew1 | refine below_set ?_ GE199.out | refine below_set ?_ GE200.out | refine below_set ?_ GE215.out | refine below_set ?_ GE220.out | refine below_set ?_ GE230.out) | exact HB.out)); (case side2 => exact Kd.R_tight rfl HO_231001.out); rintro e w125 ⟨rfl, hy0, hb, hkp⟩; refine ⟨_, rfl, ?_⟩; replace HO_216001 := Aside0.mk (Kd.R_mono (ok' := fun k_ => some k_ ≠ (.slice Ao40 t238.length co40 : Value).ownBlock ∧ some k_ ≠ (.slice Ao48 t226.length co48 : Value).ownBlock) (Kd.R_keptB (HO_216001.out) hkp (fun k_ hk_ hs_ => (hk_.2) hs_)) (fun k_ hk_ => ⟨hk_.1.1, hk_.1.2⟩)); replace HO_221001 := Aside0.mk (Kd.R_mono (ok' := fun k_ => some k_ ≠ (.slice Ao30 t211.length co30 : Value).ownBlock ∧ some k_ ≠ (.slice Ao48 t226.length co48 : Value).ownBlock) (Kd.R_keptB (HO_221001.out) hkp (fun k_ hk_ hs_ => (hk_.2) hs_)) (fun k_ hk_ => ⟨hk_.1.1, hk_.1.2⟩)); replace BK199 := Aside0.mk (blk_kept (pk BK199) hkp (fun hs_ => (fun e_ => (Kd.R_ne HO_231001.out BK199.out (by decide)) e_) hs_)); replace BK200 := Aside0.mk (blk_kept (pk BK200) hkp (fun hs_ => (fun e_ => (Kd.R_ne HO_231001.out BK200.out (by decide)) e_) hs_)); replace BK215 := Aside0.mk (blk_kept (pk BK215) hkp (fun hs_ => (fun e_ => (Kd.R_ne HO_231001.out BK215.out (by decide)) e_) hs_)); replace BK220 := Aside0.mk (blk_kept (pk BK220) hkp (fun hs_ => (fun e_ => (Kd.R_ne HO_231001.out BK220.out (by decide)) e_) hs_)); replace BK230 := Aside0.mk (blk_kept (pk BK230) hkp (fun hs_ => (fun e_ => (Kd.R_ne HO_231001.out BK230.out (by decide)) e_) hs_)); replace HO_231001 := Aside0.mk (Kd.R_reok rfl hy0 (fun k_ e_ => HO_231001.out.1 k_ e_)); replace HB := Aside0.mk (hb); (try clear hb); (try clear hkp); (try clear hy0); have hcz126_0 := bc BK230 0 (.int .i64 t225); have hcz126_1 := bc BK230 1 (.slice Ao48 t226.length co48); have hfz126_0 := blk_frozen BK230.out 0; have hfz126_1 := blk_frozen BK230.out 1) | ((with_reducible refine gate_callee (f := 15) rfl ?_); refine goesL_ (some 73) rfl rfl Try.func15 (by kernel_rfl) rfl #[.agg #[.int .i64 t225, .slice Ao48 t241.length co48], .int .i64 1] rfl (by (try simp only [List.map_toArray, List.map_cons, List.map_nil]); first | done | (rw [show t241.length = t226.length from (Kd.R_reads' HO_231001.out).1.symm] <;> rfl) | rfl | (simp only [List.length_drop, List.length_take]; rfl)) ?_; (with_reducible refine (laws_heldPuzzle.calls kj76 t225 _ _ t241 1 t242 _ ?side1 ?side2 A113.out).mono ?_); (case side1 => repeat (first | exact (Kd.R_reads' HO_231001.out).2.2 | (with_reducible refine Kd.C_alloc ?_ _) | (with_reducible refine Kd.C_drewN ?_ _) | (with_reducible refine Kd.C_drew ?_))); (case side2 => rw [show t241.length = t226.length from (Kd.R_reads' HO_231001.out).1.symm]; exact (Kd.R_reads' HO_231001.out).2.1); rintro e w127 ⟨rfl, hb⟩; refine ⟨_, rfl, ?_⟩; replace HO_216001 := Aside0.mk (Kd.R_below (pr HO_216001) hb); replace HO_221001 := Aside0.mk (Kd.R_below (pr HO_221001) hb); replace HO_231001 := Aside0.mk (Kd.R_below (pr HO_231001) hb); replace BK199 := nk BK199 hb; replace BK200 := nk BK200 hb; replace BK215 := nk BK215 hb; replace BK220 := nk BK220 hb; replace BK230 := nk BK230 hb; replace HB := bs hb; (try clear hb)))
           replace HO_216001 := Aside0.mk (Kd.R_drew HO_216001.out)
           replace HO_221001 := Aside0.mk (Kd.R_drew HO_221001.out)
           replace HO_231001 := Aside0.mk (Kd.R_drew HO_231001.out)
           replace BK199 := Aside0.mk (blk_drew BK199.out)
           replace BK200 := Aside0.mk (blk_drew BK200.out)
           replace BK215 := Aside0.mk (blk_drew BK215.out)
           replace BK220 := Aside0.mk (blk_drew BK220.out)
           replace BK230 := Aside0.mk (blk_drew BK230.out)
           replace HB := Aside0.mk (below_drew1 HB.out)
           refine start_ (n := 11) (S := fun w' => w'.cell? ⟨gb199, 0, none⟩ = some (.int .i64 a0_0) ∧ w'.cell? ⟨gb199, 1, none⟩ = some (.slice A0_1 l0_1.length c0_1) ∧ w'.cell? ⟨gb200, 0, none⟩ = some (.int .i64 a1_0) ∧ w'.cell? ⟨gb200, 1, none⟩ = some (.int .i64 a1_1) ∧ w'.cell? ⟨gb200, 2, none⟩ = some (.int .i64 a1_2) ∧ w'.cell? ⟨gb200, 3, none⟩ = some (.int .i64 a1_3)) (ds := []) #[false, false, false, false, false, false, false, false, false, false, false] (by kernel_rfl) rfl rfl ⟨ec BK199, ec BK199, ec BK200, ec BK200, ec BK200, ec BK200⟩ (fun hHeld => ?_); refine with_tabW laws_FnExactAddClue.tab24 laws_FnExactAddClue.bits24 (fun HT_ HW_ => ?_)
           generalize w127.drew = w128 at HO_216001 HO_221001 HO_231001 BK199 BK200 BK215 BK220 BK230 HB hHeld ⊢
           refine take_ (i := 0) (N := some 80) (v := ?_) (a' := ?_) #[true, false, false, false, false, false, false, false, false, false, false] rfl rfl (take_ofW HT_.out HW_.out (by kernel_rfl)) (fun _ _ _ h => h) (Or.inl ⟨by rfl, ?_⟩) hHeld ?_ ?_
           rotate_left
           ·rintro w' ⟨s0, s1, s2, s3, s4, s5⟩
            go_simp
            with_reducible rfl
           rotate_left
           ·simp only [Act.put, List.setIfInBounds_toArray, List.set_cons_zero, List.set_cons_succ, i64_w, i32_w]
            rfl
           refine take_ (i := 2) (N := some 82) (v := ?_) (a' := ?_) #[true, false, true, false, false, false, false, false, false, false, false] rfl rfl (take_ofW HT_.out HW_.out (by kernel_rfl)) (fun _ _ _ h => h) (Or.inl ⟨by rfl, ?_⟩) hHeld ?_ ?_
           rotate_left
           ·rintro w' ⟨s0, s1, s2, s3, s4, s5⟩
            go_simp
            with_reducible rfl
           rotate_left
           ·simp only [Act.put, List.setIfInBounds_toArray, List.set_cons_zero, List.set_cons_succ, i64_w, i32_w]
            rfl
           refine join_ (σ := Value × Value × Nat) 2 #[true, true, true, true, true, true, true, true, true, false, false] (fun s_ => [(81, .agg #[.int .i64 t243, s_.1]), (83, .agg #[.int .i64 t247, .int .i64 t248, .int .i64 t249, .int .i64 t250]), (84, .tuple #[.agg #[.int .i64 t251, s_.2.1], .bool t255]), (14, .pointer (some ⟨s_.2.2, 0, none⟩)), (79, .tuple #[.agg #[.int .i64 t251, s_.2.1], .bool t255]), (85, .agg #[.int .i64 t251, s_.2.1]), (86, .bool t255)]) (fun s_ w' => (w'.cell? ⟨gb199, 0, none⟩ = some (.int .i64 a0_0) ∧ w'.cell? ⟨gb199, 1, none⟩ = some (.slice A0_1 l0_1.length c0_1) ∧ w'.cell? ⟨gb200, 0, none⟩ = some (.int .i64 a1_0) ∧ w'.cell? ⟨gb200, 1, none⟩ = some (.int .i64 a1_1) ∧ w'.cell? ⟨gb200, 2, none⟩ = some (.int .i64 a1_2) ∧ w'.cell? ⟨gb200, 3, none⟩ = some (.int .i64 a1_3)) ∧ (Kd.R k37 37 w' w.heap.size (fun k_ => some k_ ≠ (s_.2.1 : Value).ownBlock ∧ some k_ ≠ (.slice Ao30 t211.length co30 : Value).ownBlock ∧ some k_ ≠ (.slice Ao40 t238.length co40 : Value).ownBlock ∧ some k_ ≠ (.slice Ao48 t226.length co48 : Value).ownBlock) s_.1 t244) ∧ (Kd.R k37 37 w' w.heap.size (fun k_ => some k_ ≠ (s_.1 : Value).ownBlock ∧ some k_ ≠ (.slice Ao30 t211.length co30 : Value).ownBlock ∧ some k_ ≠ (.slice Ao40 t238.length co40 : Value).ownBlock ∧ some k_ ≠ (.slice Ao48 t226.length co48 : Value).ownBlock) s_.2.1 t252) ∧ (Kd.R k37 37 w' w.heap.size (fun k_ => some k_ ≠ (s_.1 : Value).ownBlock ∧ some k_ ≠ (s_.2.1 : Value).ownBlock ∧ some k_ ≠ (.slice Ao40 t238.length co40 : Value).ownBlock ∧ some k_ ≠ (.slice Ao48 t226.length co48 : Value).ownBlock) (.slice Ao30 t211.length co30) t211) ∧ (Kd.R k37 37 w' w.heap.size (fun k_ => some k_ ≠ (s_.1 : Value).ownBlock ∧ some k_ ≠ (s_.2.1 : Value).ownBlock ∧ some k_ ≠ (.slice Ao30 t211.length co30 : Value).ownBlock ∧ some k_ ≠ (.slice Ao48 t226.length co48 : Value).ownBlock) (.slice Ao40 t238.length co40) t238) ∧ (Kd.R k37 37 w' w.heap.size (fun k_ => some k_ ≠ (s_.1 : Value).ownBlock ∧ some k_ ≠ (s_.2.1 : Value).ownBlock ∧ some k_ ≠ (.slice Ao30 t211.length co30 : Value).ownBlock ∧ some k_ ≠ (.slice Ao40 t238.length co40 : Value).ownBlock) (.slice Ao48 t226.length co48) t241) ∧ (w'.heap[gb199]? = some (.cells #[.int .i64 a0_0, .slice A0_1 l0_1.length c0_1] 24 (0, 0))) ∧ (w'.heap[gb200]? = some (.cells #[.int .i64 a1_0, .int .i64 a1_1, .int .i64 a1_2, .int .i64 a1_3] 34 (0, 0))) ∧ (w'.heap[gb215]? = some (.cells #[.int .i64 t210, .slice Ao30 t211.length co30] 29 (0, 0))) ∧ (w'.heap[gb220]? = some (.cells #[.int .i64 t216, .slice Ao40 t238.length co40] 29 (0, 0))) ∧ (w'.heap[gb230]? = some (.cells #[.int .i64 t225, .slice Ao48 t226.length co48] 29 (0, 0))) ∧ (w'.heap[s_.2.2]? = some (.cells #[.int .i64 0, .slice none 0 0] 29 (0, 0))) ∧ (w.heap.size ≤ s_.2.2) ∧ (w.heap.size ≤ s_.2.2) ∧ (gb199 ≠ s_.2.2) ∧ (s_.2.2 ≠ gb199) ∧ (gb200 ≠ s_.2.2) ∧ (s_.2.2 ≠ gb200) ∧ (gb215 ≠ s_.2.2) ∧ (s_.2.2 ≠ gb215) ∧ (gb220 ≠ s_.2.2) ∧ (s_.2.2 ≠ gb220) ∧ (gb230 ≠ s_.2.2) ∧ (s_.2.2 ≠ gb230) ∧ (Below w.heap.size w w')) ?_ ?_
           rotate_left
           ·intro hCont
            refine two_ (i := 1) (j := 8) (Ni := some 81) (Nj := some 14) #[true, true, true, false, false, false, false, false, false, false, false] #[true, false, true, false, false, false, false, false, true, false, false] rfl rfl rfl rfl (two_of HT_.out (by kernel_rfl)) (by decide) (by decide) (fun K hK => ?_) (fun K hK => ?_)
            ·skip
             refine goes_ Try.func8 (by kernel_rfl) rfl #[.agg #[.int .i64 a0_0, .slice A0_1 l0_1.length c0_1]] (by rfl) rfl rfl (by (try simp only [List.map_toArray, List.map_cons, List.map_nil]); first | done | rfl | (simp only [List.length_drop, List.length_take]; rfl)) ?_
             with_reducible refine (laws_toPuzzle.calls kj76 a0_0 _ _ l0_1 t243 t244 _ ?side1 ?side2 A116.out).mono ?_
             (case side1 => repeat (first | exact (Kd.C_below HR0_1.out HB.out) | (with_reducible refine Kd.C_alloc ?_ _) | (with_reducible refine Kd.C_drewN ?_ _) | (with_reducible refine Kd.C_drew ?_)))
             (case side2 => exact HC0_1.out)
             rintro e w129 ⟨v245, rfl, ho0, hb⟩
             refine ⟨_, rfl, ?_⟩
             have HO246 := Aside0.mk (Kd.R_lower (Kd.R_new' (Kd.R_new' (Kd.R_new' ho0 (Kd.R_lt (pr HO_216001))) (Kd.R_lt (pr HO_221001))) (Kd.R_lt (pr HO_231001))) (below_size bw))
             replace HO_216001 := Aside0.mk (Kd.R_elder' (pr HO_216001) (Kd.R_base ho0) hb)
             replace HO_221001 := Aside0.mk (Kd.R_elder' (pr HO_221001) (Kd.R_base ho0) hb)
             replace HO_231001 := Aside0.mk (Kd.R_elder' (pr HO_231001) (Kd.R_base ho0) hb)
             replace BK199 := nk BK199 hb
             replace BK200 := nk BK200 hb
             replace BK215 := nk BK215 hb
             replace BK220 := nk BK220 hb
             replace BK230 := nk BK230 hb
             replace HB := bs hb
             (try clear hb)
             (try clear ho0)
             refine hK.out _ _ ⟨ec BK199, ec BK199, ec BK200, ec BK200, ec BK200, ec BK200⟩ (fun hHeld => ?_)
             clear hK K
             refine nm (some 81) ?_
             refine two_ (i := 3) (j := 8) (Ni := some 83) (Nj := some 14) #[true, true, true, true, false, false, false, false, false, false, false] #[true, true, true, false, false, false, false, false, true, false, false] rfl rfl rfl rfl (two_of HT_.out (by kernel_rfl)) (by decide) (by decide) (fun K hK => ?_) (fun K hK => ?_)
             ·skip
              refine goes_ Try.func12 (by kernel_rfl) rfl #[.agg #[.int .i64 a1_0, .int .i64 a1_1, .int .i64 a1_2, .int .i64 a1_3]] (by rfl) rfl rfl (by (try simp only [List.map_toArray, List.map_cons, List.map_nil]); first | done | rfl | (simp only [List.length_drop, List.length_take]; rfl)) ?_
              with_reducible refine (laws_toClue.calls a1_0 a1_1 a1_2 a1_3 t247 t248 t249 t250 _ A117.out).mono ?_
              rintro e w130 ⟨rfl, hb⟩
              refine ⟨_, rfl, ?_⟩
              replace HO_216001 := Aside0.mk (Kd.R_below (pr HO_216001) hb)
              replace HO_221001 := Aside0.mk (Kd.R_below (pr HO_221001) hb)
              replace HO_231001 := Aside0.mk (Kd.R_below (pr HO_231001) hb)
              replace HO246 := Aside0.mk (Kd.R_below (pr HO246) hb)
              replace BK199 := nk BK199 hb
              replace BK200 := nk BK200 hb
              replace BK215 := nk BK215 hb
              replace BK220 := nk BK220 hb
              replace BK230 := nk BK230 hb
              replace HB := bs hb
              (try clear hb)
              obtain ⟨Ao131, co131, eo131⟩ := Kd.R_slice HO246.out
              (first | subst eo131 | (injection eo131 with f1_ f2_ f3_; have f4_ := f1_.symm; have f5_ := f3_.symm; clear f1_ f2_ f3_; subst f4_; subst f5_))
              refine hK.out _ _ ⟨ec BK199, ec BK199, ec BK200, ec BK200, ec BK200, ec BK200⟩ (fun hHeld => ?_)
              clear hK K
              refine nm (some 83) ?_
              refine two_ (i := 4) (j := 8) (Ni := some 84) (Nj := some 14) #[true, true, true, true, true, false, false, false, false, false, false] #[true, true, true, true, false, false, false, false, true, false, false] rfl rfl rfl rfl (two_of HT_.out (by kernel_rfl)) (by decide) (by decide) (fun K hK => ?_) (fun K hK => ?_)
              ·skip
               refine goes_ Try.func13 (by kernel_rfl) rfl #[.agg #[.int .i64 t243, .slice Ao131 t244.length co131], .agg #[.int .i64 t247, .int .i64 t248, .int .i64 t249, .int .i64 t250]] (by rfl) rfl rfl (by (try simp only [List.map_toArray, List.map_cons, List.map_nil]); first | done | rfl | (simp only [List.length_drop, List.length_take]; rfl)) ?_
               with_reducible refine (impl_AddClue.calls kj76 t243 _ _ t244 t247 t248 t249 t250 t251 t252 t255 _ ?side1 ?side2 A118.out).mono ?_
               (case side1 => repeat (first | exact (Kd.R_reads' HO246.out).2.2 | (with_reducible refine Kd.C_alloc ?_ _) | (with_reducible refine Kd.C_drewN ?_ _) | (with_reducible refine Kd.C_drew ?_)))
               (case side2 => exact (Kd.R_reads' HO246.out).2.1)
               rintro e w132 ⟨v253, rfl, ho0, hb⟩
               refine ⟨_, rfl, ?_⟩
               have HO254 := Aside0.mk (Kd.R_lower (Kd.R_new' (Kd.R_new' (Kd.R_new' (Kd.R_new' ho0 (Kd.R_lt (pr HO_216001))) (Kd.R_lt (pr HO_221001))) (Kd.R_lt (pr HO_231001))) (Kd.R_lt (pr HO246))) (below_size bw))
               replace HO_216001 := Aside0.mk (Kd.R_elder' (pr HO_216001) (Kd.R_base ho0) hb)
               replace HO_221001 := Aside0.mk (Kd.R_elder' (pr HO_221001) (Kd.R_base ho0) hb)
               replace HO_231001 := Aside0.mk (Kd.R_elder' (pr HO_231001) (Kd.R_base ho0) hb)
               replace HO246 := Aside0.mk (Kd.R_elder' (pr HO246) (Kd.R_base ho0) hb)
               replace BK199 := nk BK199 hb
               replace BK200 := nk BK200 hb
               replace BK215 := nk BK215 hb
               replace BK220 := nk BK220 hb
               replace BK230 := nk BK230 hb
               replace HB := bs hb
               (try clear hb)
               (try clear ho0)
               refine hK.out _ _ ⟨ec BK199, ec BK199, ec BK200, ec BK200, ec BK200, ec BK200⟩ (fun hHeld => ?_)
               clear hK K
               refine nm (some 84) ?_
               refine pu 5 (some 79) #[true, true, true, true, true, true, false, false, false, false, false] ?_
               refine pu 6 (some 85) #[true, true, true, true, true, true, true, false, false, false, false] ?_
               refine pu 7 (some 86) #[true, true, true, true, true, true, true, true, false, false, false] ?_
               refine one_ (i := 8) (N := some 14) #[true, true, true, true, true, true, true, true, true, false, false] rfl rfl (one_of HT_.out (by kernel_rfl)) (by decide) (fun K hK => ?_)
               refine box_step ?hg (N := 14) ?hd (cs := #[.int .i64 0, .slice none 0 0]) (t := 29) ?hr ?_; (case hd => rfl); (case hg => rfl); (case hr => first | (go_simp; done) | (go_simp; rfl))
               intro gb256 hg w133 hbox hb
               replace HO_216001 := Aside0.mk (Kd.R_below (pr HO_216001) hb)
               replace HO_221001 := Aside0.mk (Kd.R_below (pr HO_221001) hb)
               replace HO_231001 := Aside0.mk (Kd.R_below (pr HO_231001) hb)
               replace HO246 := Aside0.mk (Kd.R_below (pr HO246) hb)
               replace HO254 := Aside0.mk (Kd.R_below (pr HO254) hb)
               have BK256 := Aside0.mk (hbox)
               have GW256 := gs hg
               have GE256 := gs hg
               replace HB := bs hb
               have NB199_256 := nl BK199 hg
               have NB256_199 := ng BK199 hg
               replace BK199 := nk BK199 hb
               have NB200_256 := nl BK200 hg
               have NB256_200 := ng BK200 hg
               replace BK200 := nk BK200 hb
               have NB215_256 := nl BK215 hg
               have NB256_215 := ng BK215 hg
               replace BK215 := nk BK215 hb
               have NB220_256 := nl BK220 hg
               have NB256_220 := ng BK220 hg
               replace BK220 := nk BK220 hb
               have NB230_256 := nl BK230 hg
               have NB256_230 := ng BK230 hg
               replace BK230 := nk BK230 hb
               clear hb hbox hg
               refine hK.out _ _ ⟨ec BK199, ec BK199, ec BK200, ec BK200, ec BK200, ec BK200⟩ (fun hHeld => ?_)
               clear hK K
               refine nm (some 14) ?_
               exact norm_ (by simp only [putAll, Act.put, List.setIfInBounds_toArray, List.set_cons_zero, List.set_cons_succ]) (hCont (.slice Ao131 t244.length co131, v253, gb256) _ ⟨hHeld, (by (with_reducible repeat (first | apply Kd.R_alloc | apply Kd.R_drewN | apply Kd.R_drew)); exact Kd.R_mono HO246.out (fun _ hk => ⟨hk.2, ⟨hk.1.1.1.2, ⟨hk.1.1.2, hk.1.2⟩⟩⟩)), (by (with_reducible repeat (first | apply Kd.R_alloc | apply Kd.R_drewN | apply Kd.R_drew)); exact Kd.R_mono HO254.out (fun _ hk => ⟨hk.2, ⟨hk.1.1.1.2, ⟨hk.1.1.2, hk.1.2⟩⟩⟩)), (by (with_reducible repeat (first | apply Kd.R_alloc | apply Kd.R_drewN | apply Kd.R_drew)); exact Kd.R_mono HO_216001.out (fun _ hk => ⟨hk.1.2, ⟨hk.2, ⟨hk.1.1.1, hk.1.1.2⟩⟩⟩)), (by (with_reducible repeat (first | apply Kd.R_alloc | apply Kd.R_drewN | apply Kd.R_drew)); exact Kd.R_mono HO_221001.out (fun _ hk => ⟨hk.1.2, ⟨hk.2, ⟨hk.1.1.1, hk.1.1.2⟩⟩⟩)), (by (with_reducible repeat (first | apply Kd.R_alloc | apply Kd.R_drewN | apply Kd.R_drew)); exact Kd.R_mono HO_231001.out (fun _ hk => ⟨hk.1.2, ⟨hk.2, ⟨hk.1.1.1, hk.1.1.2⟩⟩⟩)), (pk BK199), (pk BK200), (pk BK215), (pk BK220), (pk BK230), (pk BK256), GW256.out, GE256.out, NB199_256.out, NB256_199.out, NB200_256.out, NB256_200.out, NB215_256.out, NB256_215.out, NB220_256.out, NB256_220.out, NB230_256.out, NB256_230.out, bw⟩)
              ·skip
               refine box_step ?hg (N := 14) ?hd (cs := #[.int .i64 0, .slice none 0 0]) (t := 29) ?hr ?_; (case hd => rfl); (case hg => rfl); (case hr => first | (go_simp; done) | (go_simp; rfl))
               intro gb256 hg w131 hbox hb
               replace HO_216001 := Aside0.mk (Kd.R_below (pr HO_216001) hb)
               replace HO_221001 := Aside0.mk (Kd.R_below (pr HO_221001) hb)
               replace HO_231001 := Aside0.mk (Kd.R_below (pr HO_231001) hb)
               replace HO246 := Aside0.mk (Kd.R_below (pr HO246) hb)
               have BK256 := Aside0.mk (hbox)
               have GW256 := gs hg
               have GE256 := gs hg
               replace HB := bs hb
               have NB199_256 := nl BK199 hg
               have NB256_199 := ng BK199 hg
               replace BK199 := nk BK199 hb
               have NB200_256 := nl BK200 hg
               have NB256_200 := ng BK200 hg
               replace BK200 := nk BK200 hb
               have NB215_256 := nl BK215 hg
               have NB256_215 := ng BK215 hg
               replace BK215 := nk BK215 hb
               have NB220_256 := nl BK220 hg
               have NB256_220 := ng BK220 hg
               replace BK220 := nk BK220 hb
               have NB230_256 := nl BK230 hg
               have NB256_230 := ng BK230 hg
               replace BK230 := nk BK230 hb
               clear hb hbox hg
               obtain ⟨Ao132, co132, eo132⟩ := Kd.R_slice HO246.out
               (first | subst eo132 | (injection eo132 with f1_ f2_ f3_; have f4_ := f1_.symm; have f5_ := f3_.symm; clear f1_ f2_ f3_; subst f4_; subst f5_))
               refine hK.out _ _ ⟨ec BK199, ec BK199, ec BK200, ec BK200, ec BK200, ec BK200⟩ (fun hHeld => ?_)
               clear hK K
               refine nm (some 14) ?_
               refine one_ (i := 4) (N := some 84) #[true, true, true, true, true, false, false, false, true, false, false] rfl rfl (one_of HT_.out (by kernel_rfl)) (by decide) (fun K hK => ?_)
               refine goes_ Try.func13 (by kernel_rfl) rfl #[.agg #[.int .i64 t243, .slice Ao132 t244.length co132], .agg #[.int .i64 t247, .int .i64 t248, .int .i64 t249, .int .i64 t250]] (by rfl) rfl rfl (by (try simp only [List.map_toArray, List.map_cons, List.map_nil]); first | done | rfl | (simp only [List.length_drop, List.length_take]; rfl)) ?_
               with_reducible refine (impl_AddClue.calls kj76 t243 _ _ t244 t247 t248 t249 t250 t251 t252 t255 _ ?side1 ?side2 A118.out).mono ?_
               (case side1 => repeat (first | exact (Kd.R_reads' HO246.out).2.2 | (with_reducible refine Kd.C_alloc ?_ _) | (with_reducible refine Kd.C_drewN ?_ _) | (with_reducible refine Kd.C_drew ?_)))
               (case side2 => exact (Kd.R_reads' HO246.out).2.1)
               rintro e w133 ⟨v253, rfl, ho0, hb⟩
               refine ⟨_, rfl, ?_⟩
               have HO254 := Aside0.mk (Kd.R_lower (Kd.R_new' (Kd.R_new' (Kd.R_new' (Kd.R_new' ho0 (Kd.R_lt (pr HO_216001))) (Kd.R_lt (pr HO_221001))) (Kd.R_lt (pr HO_231001))) (Kd.R_lt (pr HO246))) (below_size bw))
               replace HO_216001 := Aside0.mk (Kd.R_elder' (pr HO_216001) (Kd.R_base ho0) hb)
               replace HO_221001 := Aside0.mk (Kd.R_elder' (pr HO_221001) (Kd.R_base ho0) hb)
               replace HO_231001 := Aside0.mk (Kd.R_elder' (pr HO_231001) (Kd.R_base ho0) hb)
               replace HO246 := Aside0.mk (Kd.R_elder' (pr HO246) (Kd.R_base ho0) hb)
               replace BK199 := nk BK199 hb
               replace BK200 := nk BK200 hb
               replace BK215 := nk BK215 hb
               replace BK220 := nk BK220 hb
               replace BK230 := nk BK230 hb
               replace BK256 := nk BK256 hb
               replace HB := bs hb
               (try clear hb)
               (try clear ho0)
               refine hK.out _ _ ⟨ec BK199, ec BK199, ec BK200, ec BK200, ec BK200, ec BK200⟩ (fun hHeld => ?_)
               clear hK K
               refine nm (some 84) ?_
               refine pu 5 (some 79) #[true, true, true, true, true, true, false, false, true, false, false] ?_
               refine pu 6 (some 85) #[true, true, true, true, true, true, true, false, true, false, false] ?_
               refine pu 7 (some 86) #[true, true, true, true, true, true, true, true, true, false, false] ?_
               exact norm_ (by simp only [putAll, Act.put, List.setIfInBounds_toArray, List.set_cons_zero, List.set_cons_succ]) (hCont (.slice Ao132 t244.length co132, v253, gb256) _ ⟨hHeld, (by (with_reducible repeat (first | apply Kd.R_alloc | apply Kd.R_drewN | apply Kd.R_drew)); exact Kd.R_mono HO246.out (fun _ hk => ⟨hk.2, ⟨hk.1.1.1.2, ⟨hk.1.1.2, hk.1.2⟩⟩⟩)), (by (with_reducible repeat (first | apply Kd.R_alloc | apply Kd.R_drewN | apply Kd.R_drew)); exact Kd.R_mono HO254.out (fun _ hk => ⟨hk.2, ⟨hk.1.1.1.2, ⟨hk.1.1.2, hk.1.2⟩⟩⟩)), (by (with_reducible repeat (first | apply Kd.R_alloc | apply Kd.R_drewN | apply Kd.R_drew)); exact Kd.R_mono HO_216001.out (fun _ hk => ⟨hk.1.2, ⟨hk.2, ⟨hk.1.1.1, hk.1.1.2⟩⟩⟩)), (by (with_reducible repeat (first | apply Kd.R_alloc | apply Kd.R_drewN | apply Kd.R_drew)); exact Kd.R_mono HO_221001.out (fun _ hk => ⟨hk.1.2, ⟨hk.2, ⟨hk.1.1.1, hk.1.1.2⟩⟩⟩)), (by (with_reducible repeat (first | apply Kd.R_alloc | apply Kd.R_drewN | apply Kd.R_drew)); exact Kd.R_mono HO_231001.out (fun _ hk => ⟨hk.1.2, ⟨hk.2, ⟨hk.1.1.1, hk.1.1.2⟩⟩⟩)), (pk BK199), (pk BK200), (pk BK215), (pk BK220), (pk BK230), (pk BK256), GW256.out, GE256.out, NB199_256.out, NB256_199.out, NB200_256.out, NB256_200.out, NB215_256.out, NB256_215.out, NB220_256.out, NB256_220.out, NB230_256.out, NB256_230.out, bw⟩)
             ·skip
              refine box_step ?hg (N := 14) ?hd (cs := #[.int .i64 0, .slice none 0 0]) (t := 29) ?hr ?_; (case hd => rfl); (case hg => rfl); (case hr => first | (go_simp; done) | (go_simp; rfl))
              intro gb256 hg w130 hbox hb
              replace HO_216001 := Aside0.mk (Kd.R_below (pr HO_216001) hb)
              replace HO_221001 := Aside0.mk (Kd.R_below (pr HO_221001) hb)
              replace HO_231001 := Aside0.mk (Kd.R_below (pr HO_231001) hb)
              replace HO246 := Aside0.mk (Kd.R_below (pr HO246) hb)
              have BK256 := Aside0.mk (hbox)
              have GW256 := gs hg
              have GE256 := gs hg
              replace HB := bs hb
              have NB199_256 := nl BK199 hg
              have NB256_199 := ng BK199 hg
              replace BK199 := nk BK199 hb
              have NB200_256 := nl BK200 hg
              have NB256_200 := ng BK200 hg
              replace BK200 := nk BK200 hb
              have NB215_256 := nl BK215 hg
              have NB256_215 := ng BK215 hg
              replace BK215 := nk BK215 hb
              have NB220_256 := nl BK220 hg
              have NB256_220 := ng BK220 hg
              replace BK220 := nk BK220 hb
              have NB230_256 := nl BK230 hg
              have NB256_230 := ng BK230 hg
              replace BK230 := nk BK230 hb
              clear hb hbox hg
              refine hK.out _ _ ⟨ec BK199, ec BK199, ec BK200, ec BK200, ec BK200, ec BK200⟩ (fun hHeld => ?_)
              clear hK K
              refine nm (some 14) ?_
              refine one_ (i := 3) (N := some 83) #[true, true, true, true, false, false, false, false, true, false, false] rfl rfl (one_of HT_.out (by kernel_rfl)) (by decide) (fun K hK => ?_)
              refine goes_ Try.func12 (by kernel_rfl) rfl #[.agg #[.int .i64 a1_0, .int .i64 a1_1, .int .i64 a1_2, .int .i64 a1_3]] (by rfl) rfl rfl (by (try simp only [List.map_toArray, List.map_cons, List.map_nil]); first | done | rfl | (simp only [List.length_drop, List.length_take]; rfl)) ?_
              with_reducible refine (laws_toClue.calls a1_0 a1_1 a1_2 a1_3 t247 t248 t249 t250 _ A117.out).mono ?_
              rintro e w131 ⟨rfl, hb⟩
              refine ⟨_, rfl, ?_⟩
              replace HO_216001 := Aside0.mk (Kd.R_below (pr HO_216001) hb)
              replace HO_221001 := Aside0.mk (Kd.R_below (pr HO_221001) hb)
              replace HO_231001 := Aside0.mk (Kd.R_below (pr HO_231001) hb)
              replace HO246 := Aside0.mk (Kd.R_below (pr HO246) hb)
              replace BK199 := nk BK199 hb
              replace BK200 := nk BK200 hb
              replace BK215 := nk BK215 hb
              replace BK220 := nk BK220 hb
              replace BK230 := nk BK230 hb
              replace BK256 := nk BK256 hb
              replace HB := bs hb
              (try clear hb)
              obtain ⟨Ao132, co132, eo132⟩ := Kd.R_slice HO246.out
              (first | subst eo132 | (injection eo132 with f1_ f2_ f3_; have f4_ := f1_.symm; have f5_ := f3_.symm; clear f1_ f2_ f3_; subst f4_; subst f5_))
              refine hK.out _ _ ⟨ec BK199, ec BK199, ec BK200, ec BK200, ec BK200, ec BK200⟩ (fun hHeld => ?_)
              clear hK K
              refine nm (some 83) ?_
              refine one_ (i := 4) (N := some 84) #[true, true, true, true, true, false, false, false, true, false, false] rfl rfl (one_of HT_.out (by kernel_rfl)) (by decide) (fun K hK => ?_)
              refine goes_ Try.func13 (by kernel_rfl) rfl #[.agg #[.int .i64 t243, .slice Ao132 t244.length co132], .agg #[.int .i64 t247, .int .i64 t248, .int .i64 t249, .int .i64 t250]] (by rfl) rfl rfl (by (try simp only [List.map_toArray, List.map_cons, List.map_nil]); first | done | rfl | (simp only [List.length_drop, List.length_take]; rfl)) ?_
              with_reducible refine (impl_AddClue.calls kj76 t243 _ _ t244 t247 t248 t249 t250 t251 t252 t255 _ ?side1 ?side2 A118.out).mono ?_
              (case side1 => repeat (first | exact (Kd.R_reads' HO246.out).2.2 | (with_reducible refine Kd.C_alloc ?_ _) | (with_reducible refine Kd.C_drewN ?_ _) | (with_reducible refine Kd.C_drew ?_)))
              (case side2 => exact (Kd.R_reads' HO246.out).2.1)
              rintro e w133 ⟨v253, rfl, ho0, hb⟩
              refine ⟨_, rfl, ?_⟩
              have HO254 := Aside0.mk (Kd.R_lower (Kd.R_new' (Kd.R_new' (Kd.R_new' (Kd.R_new' ho0 (Kd.R_lt (pr HO_216001))) (Kd.R_lt (pr HO_221001))) (Kd.R_lt (pr HO_231001))) (Kd.R_lt (pr HO246))) (below_size bw))
              replace HO_216001 := Aside0.mk (Kd.R_elder' (pr HO_216001) (Kd.R_base ho0) hb)
              replace HO_221001 := Aside0.mk (Kd.R_elder' (pr HO_221001) (Kd.R_base ho0) hb)
              replace HO_231001 := Aside0.mk (Kd.R_elder' (pr HO_231001) (Kd.R_base ho0) hb)
              replace HO246 := Aside0.mk (Kd.R_elder' (pr HO246) (Kd.R_base ho0) hb)
              replace BK199 := nk BK199 hb
              replace BK200 := nk BK200 hb
              replace BK215 := nk BK215 hb
              replace BK220 := nk BK220 hb
              replace BK230 := nk BK230 hb
              replace BK256 := nk BK256 hb
              replace HB := bs hb
              (try clear hb)
              (try clear ho0)
              refine hK.out _ _ ⟨ec BK199, ec BK199, ec BK200, ec BK200, ec BK200, ec BK200⟩ (fun hHeld => ?_)
              clear hK K
              refine nm (some 84) ?_
              refine pu 5 (some 79) #[true, true, true, true, true, true, false, false, true, false, false] ?_
              refine pu 6 (some 85) #[true, true, true, true, true, true, true, false, true, false, false] ?_
              refine pu 7 (some 86) #[true, true, true, true, true, true, true, true, true, false, false] ?_
              exact norm_ (by simp only [putAll, Act.put, List.setIfInBounds_toArray, List.set_cons_zero, List.set_cons_succ]) (hCont (.slice Ao132 t244.length co132, v253, gb256) _ ⟨hHeld, (by (with_reducible repeat (first | apply Kd.R_alloc | apply Kd.R_drewN | apply Kd.R_drew)); exact Kd.R_mono HO246.out (fun _ hk => ⟨hk.2, ⟨hk.1.1.1.2, ⟨hk.1.1.2, hk.1.2⟩⟩⟩)), (by (with_reducible repeat (first | apply Kd.R_alloc | apply Kd.R_drewN | apply Kd.R_drew)); exact Kd.R_mono HO254.out (fun _ hk => ⟨hk.2, ⟨hk.1.1.1.2, ⟨hk.1.1.2, hk.1.2⟩⟩⟩)), (by (with_reducible repeat (first | apply Kd.R_alloc | apply Kd.R_drewN | apply Kd.R_drew)); exact Kd.R_mono HO_216001.out (fun _ hk => ⟨hk.1.2, ⟨hk.2, ⟨hk.1.1.1, hk.1.1.2⟩⟩⟩)), (by (with_reducible repeat (first | apply Kd.R_alloc | apply Kd.R_drewN | apply Kd.R_drew)); exact Kd.R_mono HO_221001.out (fun _ hk => ⟨hk.1.2, ⟨hk.2, ⟨hk.1.1.1, hk.1.1.2⟩⟩⟩)), (by (with_reducible repeat (first | apply Kd.R_alloc | apply Kd.R_drewN | apply Kd.R_drew)); exact Kd.R_mono HO_231001.out (fun _ hk => ⟨hk.1.2, ⟨hk.2, ⟨hk.1.1.1, hk.1.1.2⟩⟩⟩)), (pk BK199), (pk BK200), (pk BK215), (pk BK220), (pk BK230), (pk BK256), GW256.out, GE256.out, NB199_256.out, NB256_199.out, NB200_256.out, NB256_200.out, NB215_256.out, NB256_215.out, NB220_256.out, NB256_220.out, NB230_256.out, NB256_230.out, bw⟩)
            ·skip
             refine box_step ?hg (N := 14) ?hd (cs := #[.int .i64 0, .slice none 0 0]) (t := 29) ?hr ?_; (case hd => rfl); (case hg => rfl); (case hr => first | (go_simp; done) | (go_simp; rfl))
             intro gb256 hg w129 hbox hb
             replace HO_216001 := Aside0.mk (Kd.R_below (pr HO_216001) hb)
             replace HO_221001 := Aside0.mk (Kd.R_below (pr HO_221001) hb)
             replace HO_231001 := Aside0.mk (Kd.R_below (pr HO_231001) hb)
             have BK256 := Aside0.mk (hbox)
             have GW256 := gs hg
             have GE256 := gs hg
             replace HB := bs hb
             have NB199_256 := nl BK199 hg
             have NB256_199 := ng BK199 hg
             replace BK199 := nk BK199 hb
             have NB200_256 := nl BK200 hg
             have NB256_200 := ng BK200 hg
             replace BK200 := nk BK200 hb
             have NB215_256 := nl BK215 hg
             have NB256_215 := ng BK215 hg
             replace BK215 := nk BK215 hb
             have NB220_256 := nl BK220 hg
             have NB256_220 := ng BK220 hg
             replace BK220 := nk BK220 hb
             have NB230_256 := nl BK230 hg
             have NB256_230 := ng BK230 hg
             replace BK230 := nk BK230 hb
             clear hb hbox hg
             refine hK.out _ _ ⟨ec BK199, ec BK199, ec BK200, ec BK200, ec BK200, ec BK200⟩ (fun hHeld => ?_)
             clear hK K
             refine nm (some 14) ?_
             refine one_ (i := 1) (N := some 81) #[true, true, true, false, false, false, false, false, true, false, false] rfl rfl (one_of HT_.out (by kernel_rfl)) (by decide) (fun K hK => ?_)
             refine goes_ Try.func8 (by kernel_rfl) rfl #[.agg #[.int .i64 a0_0, .slice A0_1 l0_1.length c0_1]] (by rfl) rfl rfl (by (try simp only [List.map_toArray, List.map_cons, List.map_nil]); first | done | rfl | (simp only [List.length_drop, List.length_take]; rfl)) ?_
             with_reducible refine (laws_toPuzzle.calls kj76 a0_0 _ _ l0_1 t243 t244 _ ?side1 ?side2 A116.out).mono ?_
             (case side1 => repeat (first | exact (Kd.C_below HR0_1.out HB.out) | (with_reducible refine Kd.C_alloc ?_ _) | (with_reducible refine Kd.C_drewN ?_ _) | (with_reducible refine Kd.C_drew ?_)))
             (case side2 => exact HC0_1.out)
             rintro e w130 ⟨v245, rfl, ho0, hb⟩
             refine ⟨_, rfl, ?_⟩
             have HO246 := Aside0.mk (Kd.R_lower (Kd.R_new' (Kd.R_new' (Kd.R_new' ho0 (Kd.R_lt (pr HO_216001))) (Kd.R_lt (pr HO_221001))) (Kd.R_lt (pr HO_231001))) (below_size bw))
             replace HO_216001 := Aside0.mk (Kd.R_elder' (pr HO_216001) (Kd.R_base ho0) hb)
             replace HO_221001 := Aside0.mk (Kd.R_elder' (pr HO_221001) (Kd.R_base ho0) hb)
             replace HO_231001 := Aside0.mk (Kd.R_elder' (pr HO_231001) (Kd.R_base ho0) hb)
             replace BK199 := nk BK199 hb
             replace BK200 := nk BK200 hb
             replace BK215 := nk BK215 hb
             replace BK220 := nk BK220 hb
             replace BK230 := nk BK230 hb
             replace BK256 := nk BK256 hb
             replace HB := bs hb
             (try clear hb)
             (try clear ho0)
             refine hK.out _ _ ⟨ec BK199, ec BK199, ec BK200, ec BK200, ec BK200, ec BK200⟩ (fun hHeld => ?_)
             clear hK K
             refine nm (some 81) ?_
             refine one_ (i := 3) (N := some 83) #[true, true, true, true, false, false, false, false, true, false, false] rfl rfl (one_of HT_.out (by kernel_rfl)) (by decide) (fun K hK => ?_)
             refine goes_ Try.func12 (by kernel_rfl) rfl #[.agg #[.int .i64 a1_0, .int .i64 a1_1, .int .i64 a1_2, .int .i64 a1_3]] (by rfl) rfl rfl (by (try simp only [List.map_toArray, List.map_cons, List.map_nil]); first | done | rfl | (simp only [List.length_drop, List.length_take]; rfl)) ?_
             with_reducible refine (laws_toClue.calls a1_0 a1_1 a1_2 a1_3 t247 t248 t249 t250 _ A117.out).mono ?_
             rintro e w131 ⟨rfl, hb⟩
             refine ⟨_, rfl, ?_⟩
             replace HO_216001 := Aside0.mk (Kd.R_below (pr HO_216001) hb)
             replace HO_221001 := Aside0.mk (Kd.R_below (pr HO_221001) hb)
             replace HO_231001 := Aside0.mk (Kd.R_below (pr HO_231001) hb)
             replace HO246 := Aside0.mk (Kd.R_below (pr HO246) hb)
             replace BK199 := nk BK199 hb
             replace BK200 := nk BK200 hb
             replace BK215 := nk BK215 hb
             replace BK220 := nk BK220 hb
             replace BK230 := nk BK230 hb
             replace BK256 := nk BK256 hb
             replace HB := bs hb
             (try clear hb)
             obtain ⟨Ao132, co132, eo132⟩ := Kd.R_slice HO246.out
             (first | subst eo132 | (injection eo132 with f1_ f2_ f3_; have f4_ := f1_.symm; have f5_ := f3_.symm; clear f1_ f2_ f3_; subst f4_; subst f5_))
             refine hK.out _ _ ⟨ec BK199, ec BK199, ec BK200, ec BK200, ec BK200, ec BK200⟩ (fun hHeld => ?_)
             clear hK K
             refine nm (some 83) ?_
             refine one_ (i := 4) (N := some 84) #[true, true, true, true, true, false, false, false, true, false, false] rfl rfl (one_of HT_.out (by kernel_rfl)) (by decide) (fun K hK => ?_)
             refine goes_ Try.func13 (by kernel_rfl) rfl #[.agg #[.int .i64 t243, .slice Ao132 t244.length co132], .agg #[.int .i64 t247, .int .i64 t248, .int .i64 t249, .int .i64 t250]] (by rfl) rfl rfl (by (try simp only [List.map_toArray, List.map_cons, List.map_nil]); first | done | rfl | (simp only [List.length_drop, List.length_take]; rfl)) ?_
             with_reducible refine (impl_AddClue.calls kj76 t243 _ _ t244 t247 t248 t249 t250 t251 t252 t255 _ ?side1 ?side2 A118.out).mono ?_
             (case side1 => repeat (first | exact (Kd.R_reads' HO246.out).2.2 | (with_reducible refine Kd.C_alloc ?_ _) | (with_reducible refine Kd.C_drewN ?_ _) | (with_reducible refine Kd.C_drew ?_)))
             (case side2 => exact (Kd.R_reads' HO246.out).2.1)
             rintro e w133 ⟨v253, rfl, ho0, hb⟩
             refine ⟨_, rfl, ?_⟩
             have HO254 := Aside0.mk (Kd.R_lower (Kd.R_new' (Kd.R_new' (Kd.R_new' (Kd.R_new' ho0 (Kd.R_lt (pr HO_216001))) (Kd.R_lt (pr HO_221001))) (Kd.R_lt (pr HO_231001))) (Kd.R_lt (pr HO246))) (below_size bw))
             replace HO_216001 := Aside0.mk (Kd.R_elder' (pr HO_216001) (Kd.R_base ho0) hb)
             replace HO_221001 := Aside0.mk (Kd.R_elder' (pr HO_221001) (Kd.R_base ho0) hb)
             replace HO_231001 := Aside0.mk (Kd.R_elder' (pr HO_231001) (Kd.R_base ho0) hb)
             replace HO246 := Aside0.mk (Kd.R_elder' (pr HO246) (Kd.R_base ho0) hb)
             replace BK199 := nk BK199 hb
             replace BK200 := nk BK200 hb
             replace BK215 := nk BK215 hb
             replace BK220 := nk BK220 hb
             replace BK230 := nk BK230 hb
             replace BK256 := nk BK256 hb
             replace HB := bs hb
             (try clear hb)
             (try clear ho0)
             refine hK.out _ _ ⟨ec BK199, ec BK199, ec BK200, ec BK200, ec BK200, ec BK200⟩ (fun hHeld => ?_)
             clear hK K
             refine nm (some 84) ?_
             refine pu 5 (some 79) #[true, true, true, true, true, true, false, false, true, false, false] ?_
             refine pu 6 (some 85) #[true, true, true, true, true, true, true, false, true, false, false] ?_
             refine pu 7 (some 86) #[true, true, true, true, true, true, true, true, true, false, false] ?_
             exact norm_ (by simp only [putAll, Act.put, List.setIfInBounds_toArray, List.set_cons_zero, List.set_cons_succ]) (hCont (.slice Ao132 t244.length co132, v253, gb256) _ ⟨hHeld, (by (with_reducible repeat (first | apply Kd.R_alloc | apply Kd.R_drewN | apply Kd.R_drew)); exact Kd.R_mono HO246.out (fun _ hk => ⟨hk.2, ⟨hk.1.1.1.2, ⟨hk.1.1.2, hk.1.2⟩⟩⟩)), (by (with_reducible repeat (first | apply Kd.R_alloc | apply Kd.R_drewN | apply Kd.R_drew)); exact Kd.R_mono HO254.out (fun _ hk => ⟨hk.2, ⟨hk.1.1.1.2, ⟨hk.1.1.2, hk.1.2⟩⟩⟩)), (by (with_reducible repeat (first | apply Kd.R_alloc | apply Kd.R_drewN | apply Kd.R_drew)); exact Kd.R_mono HO_216001.out (fun _ hk => ⟨hk.1.2, ⟨hk.2, ⟨hk.1.1.1, hk.1.1.2⟩⟩⟩)), (by (with_reducible repeat (first | apply Kd.R_alloc | apply Kd.R_drewN | apply Kd.R_drew)); exact Kd.R_mono HO_221001.out (fun _ hk => ⟨hk.1.2, ⟨hk.2, ⟨hk.1.1.1, hk.1.1.2⟩⟩⟩)), (by (with_reducible repeat (first | apply Kd.R_alloc | apply Kd.R_drewN | apply Kd.R_drew)); exact Kd.R_mono HO_231001.out (fun _ hk => ⟨hk.1.2, ⟨hk.2, ⟨hk.1.1.1, hk.1.1.2⟩⟩⟩)), (pk BK199), (pk BK200), (pk BK215), (pk BK220), (pk BK230), (pk BK256), GW256.out, GE256.out, NB199_256.out, NB256_199.out, NB200_256.out, NB256_200.out, NB215_256.out, NB256_215.out, NB220_256.out, NB256_220.out, NB230_256.out, NB256_230.out, bw⟩)
           rintro ⟨v245, v253, gb256⟩ w134 ⟨hS_, h0_, h1_, h2_, h3_, h4_, h5_, h6_, h7_, h8_, h9_, h10_, h11_, h12_, h13_, h14_, h15_, h16_, h17_, h18_, h19_, h20_, h21_, h22_, h23_⟩
           have n0_ : Aside0 (Kd.R k37 37 w134 w.heap.size (fun k_ => some k_ ≠ (v253 : Value).ownBlock ∧ some k_ ≠ (.slice Ao30 t211.length co30 : Value).ownBlock ∧ some k_ ≠ (.slice Ao40 t238.length co40 : Value).ownBlock ∧ some k_ ≠ (.slice Ao48 t226.length co48 : Value).ownBlock) v245 t244) := ⟨h0_⟩
           have n1_ : Aside0 (Kd.R k37 37 w134 w.heap.size (fun k_ => some k_ ≠ (v245 : Value).ownBlock ∧ some k_ ≠ (.slice Ao30 t211.length co30 : Value).ownBlock ∧ some k_ ≠ (.slice Ao40 t238.length co40 : Value).ownBlock ∧ some k_ ≠ (.slice Ao48 t226.length co48 : Value).ownBlock) v253 t252) := ⟨h1_⟩
           have n2_ : Aside0 (Kd.R k37 37 w134 w.heap.size (fun k_ => some k_ ≠ (v245 : Value).ownBlock ∧ some k_ ≠ (v253 : Value).ownBlock ∧ some k_ ≠ (.slice Ao40 t238.length co40 : Value).ownBlock ∧ some k_ ≠ (.slice Ao48 t226.length co48 : Value).ownBlock) (.slice Ao30 t211.length co30) t211) := ⟨h2_⟩
           have n3_ : Aside0 (Kd.R k37 37 w134 w.heap.size (fun k_ => some k_ ≠ (v245 : Value).ownBlock ∧ some k_ ≠ (v253 : Value).ownBlock ∧ some k_ ≠ (.slice Ao30 t211.length co30 : Value).ownBlock ∧ some k_ ≠ (.slice Ao48 t226.length co48 : Value).ownBlock) (.slice Ao40 t238.length co40) t238) := ⟨h3_⟩
           have n4_ : Aside0 (Kd.R k37 37 w134 w.heap.size (fun k_ => some k_ ≠ (v245 : Value).ownBlock ∧ some k_ ≠ (v253 : Value).ownBlock ∧ some k_ ≠ (.slice Ao30 t211.length co30 : Value).ownBlock ∧ some k_ ≠ (.slice Ao40 t238.length co40 : Value).ownBlock) (.slice Ao48 t226.length co48) t241) := ⟨h4_⟩
           have n5_ : Aside0 (w134.heap[gb199]? = some (.cells #[.int .i64 a0_0, .slice A0_1 l0_1.length c0_1] 24 (0, 0))) := ⟨h5_⟩
           have n6_ : Aside0 (w134.heap[gb200]? = some (.cells #[.int .i64 a1_0, .int .i64 a1_1, .int .i64 a1_2, .int .i64 a1_3] 34 (0, 0))) := ⟨h6_⟩
           have n7_ : Aside0 (w134.heap[gb215]? = some (.cells #[.int .i64 t210, .slice Ao30 t211.length co30] 29 (0, 0))) := ⟨h7_⟩
           have n8_ : Aside0 (w134.heap[gb220]? = some (.cells #[.int .i64 t216, .slice Ao40 t238.length co40] 29 (0, 0))) := ⟨h8_⟩
           have n9_ : Aside0 (w134.heap[gb230]? = some (.cells #[.int .i64 t225, .slice Ao48 t226.length co48] 29 (0, 0))) := ⟨h9_⟩
           have n10_ : Aside0 (w134.heap[gb256]? = some (.cells #[.int .i64 0, .slice none 0 0] 29 (0, 0))) := ⟨h10_⟩
           have n11_ : Aside0 (w.heap.size ≤ gb256) := ⟨h11_⟩
           have n12_ : Aside0 (w.heap.size ≤ gb256) := ⟨h12_⟩
           have n13_ : Aside0 (gb199 ≠ gb256) := ⟨h13_⟩
           have n14_ : Aside0 (gb256 ≠ gb199) := ⟨h14_⟩
           have n15_ : Aside0 (gb200 ≠ gb256) := ⟨h15_⟩
           have n16_ : Aside0 (gb256 ≠ gb200) := ⟨h16_⟩
           have n17_ : Aside0 (gb215 ≠ gb256) := ⟨h17_⟩
           have n18_ : Aside0 (gb256 ≠ gb215) := ⟨h18_⟩
           have n19_ : Aside0 (gb220 ≠ gb256) := ⟨h19_⟩
           have n20_ : Aside0 (gb256 ≠ gb220) := ⟨h20_⟩
           have n21_ : Aside0 (gb230 ≠ gb256) := ⟨h21_⟩
           have n22_ : Aside0 (gb256 ≠ gb230) := ⟨h22_⟩
           have n23_ : Aside0 (Below w.heap.size w w134) := ⟨h23_⟩
           clear HO_216001
           clear HO_221001
           clear HO_231001
           clear BK199
           clear BK200
           clear BK215
           clear BK220
           clear BK230
           clear HB
           clear h0_ h1_ h2_ h3_ h4_ h5_ h6_ h7_ h8_ h9_ h10_ h11_ h12_ h13_ h14_ h15_ h16_ h17_ h18_ h19_ h20_ h21_ h22_ h23_
           have HO246 := n0_
           have HO254 := n1_
           have HO_216001 := n2_
           have HO_221001 := n3_
           have HO_231001 := n4_
           have BK199 := n5_
           have BK200 := n6_
           have BK215 := n7_
           have BK220 := n8_
           have BK230 := n9_
           have BK256 := n10_
           have GW256 := n11_
           have GE256 := n12_
           have NB199_256 := n13_
           have NB256_199 := n14_
           have NB200_256 := n15_
           have NB256_200 := n16_
           have NB215_256 := n17_
           have NB256_215 := n18_
           have NB220_256 := n19_
           have NB256_220 := n20_
           have NB230_256 := n21_
           have NB256_230 := n22_
           have HB := n23_
           clear n0_ n1_ n2_ n3_ n4_ n5_ n6_ n7_ n8_ n9_ n10_ n11_ n12_ n13_ n14_ n15_ n16_ n17_ n18_ n19_ n20_ n21_ n22_ n23_
           have hHeld : w134.cell? ⟨gb199, 0, none⟩ = some (.int .i64 a0_0) ∧ w134.cell? ⟨gb199, 1, none⟩ = some (.slice A0_1 l0_1.length c0_1) ∧ w134.cell? ⟨gb200, 0, none⟩ = some (.int .i64 a1_0) ∧ w134.cell? ⟨gb200, 1, none⟩ = some (.int .i64 a1_1) ∧ w134.cell? ⟨gb200, 2, none⟩ = some (.int .i64 a1_2) ∧ w134.cell? ⟨gb200, 3, none⟩ = some (.int .i64 a1_3) := hS_
           obtain ⟨Ao136, co136, eo136⟩ := Kd.R_slice HO254.out
           (first | subst eo136 | (injection eo136 with f1_ f2_ f3_; have f4_ := f1_.symm; have f5_ := f3_.symm; clear f1_ f2_ f3_; subst f4_; subst f5_))
           refine norm_ (a' := ?_) ?_ ?_
           rotate_left
           ·simp only [putAll, Act.put, List.setIfInBounds_toArray, List.set_cons_zero, List.set_cons_succ]
            rfl
           refine one_ (i := 9) (N := none) #[true, true, true, true, true, true, true, true, true, true, false] rfl rfl (one_of HT_.out (by kernel_rfl)) (by decide) (fun K hK => ?_)
           have hs135 : w134.cell? ⟨gb256, 0, none⟩ = some (.int .i64 0) := ec BK256
           have hfs135 := blk_frozen BK256.out 0
           have hns135_0 := NB199_256.out
           have hns135_1 := NB200_256.out
           have hns135_2 := NB215_256.out
           have hns135_3 := NB220_256.out
           have hns135_4 := NB230_256.out
           have hms135_0 := NB256_199.out
           have hms135_1 := NB256_200.out
           have hms135_2 := NB256_215.out
           have hms135_3 := NB256_220.out
           have hms135_4 := NB256_230.out
           have hs137 : w134.cell? ⟨gb256, 1, none⟩ = some (.slice none 0 0) := ec BK256
           have hfs137 := blk_frozen BK256.out 1
           have hns137_0 := NB199_256.out
           have hns137_1 := NB200_256.out
           have hns137_2 := NB215_256.out
           have hns137_3 := NB220_256.out
           have hns137_4 := NB230_256.out
           have hms137_0 := NB256_199.out
           have hms137_1 := NB256_200.out
           have hms137_2 := NB256_215.out
           have hms137_3 := NB256_220.out
           have hms137_4 := NB256_230.out
           refine skip_ (w1 := ?_) (by rfl) rfl ?_ ?_
           rotate_left
           ·go_simp
            rfl
           refine hK.out _ _ ⟨((cell_far (p := ⟨gb256, _, none⟩) NB199_256.out _).trans (((cell_far (p := ⟨gb256, _, none⟩) NB199_256.out _).trans (hHeld.1)))), ((cell_far (p := ⟨gb256, _, none⟩) NB199_256.out _).trans (((cell_far (p := ⟨gb256, _, none⟩) NB199_256.out _).trans (hHeld.2.1)))), ((cell_far (p := ⟨gb256, _, none⟩) NB200_256.out _).trans (((cell_far (p := ⟨gb256, _, none⟩) NB200_256.out _).trans (hHeld.2.2.1)))), ((cell_far (p := ⟨gb256, _, none⟩) NB200_256.out _).trans (((cell_far (p := ⟨gb256, _, none⟩) NB200_256.out _).trans (hHeld.2.2.2.1)))), ((cell_far (p := ⟨gb256, _, none⟩) NB200_256.out _).trans (((cell_far (p := ⟨gb256, _, none⟩) NB200_256.out _).trans (hHeld.2.2.2.2.1)))), ((cell_far (p := ⟨gb256, _, none⟩) NB200_256.out _).trans (((cell_far (p := ⟨gb256, _, none⟩) NB200_256.out _).trans (hHeld.2.2.2.2.2))))⟩ (fun hHeld => ?_)
           clear hK K
           refine pu 10 (some 15) #[true, true, true, true, true, true, true, true, true, true, true] ?_
           refine done_ (done_of HT_.out (by kernel_rfl)) ?_
           go_upto_region 25 with (fail)
           go_cut [95] (fun v95 wc => ∃ (kq : Nat) (x95_118 : Bool), v95 = .bool x95_118 ∧ Aside0 (laws_FnExactAddClue.j2 kq t240 x95_118 t225 t241 = some r) ∧ Aside0 (kq ≤ kj76) ∧ Aside0 (Kd.R k37 37 wc w.heap.size (fun k_ => some k_ ≠ ((.slice Ao40 t238.length co40) : Value).ownBlock ∧ some k_ ≠ ((.slice Ao48 t226.length co48) : Value).ownBlock ∧ some k_ ≠ ((.slice Ao136 t252.length co136) : Value).ownBlock) (.slice Ao30 t211.length co30) t211) ∧ Aside0 (Kd.R k37 37 wc w.heap.size (fun k_ => some k_ ≠ ((.slice Ao30 t211.length co30) : Value).ownBlock ∧ some k_ ≠ ((.slice Ao48 t226.length co48) : Value).ownBlock ∧ some k_ ≠ ((.slice Ao136 t252.length co136) : Value).ownBlock) (.slice Ao40 t238.length co40) t238) ∧ Aside0 (Kd.R k37 37 wc w.heap.size (fun k_ => some k_ ≠ ((.slice Ao30 t211.length co30) : Value).ownBlock ∧ some k_ ≠ ((.slice Ao40 t238.length co40) : Value).ownBlock ∧ some k_ ≠ ((.slice Ao136 t252.length co136) : Value).ownBlock) (.slice Ao48 t226.length co48) t241) ∧ Aside0 (Kd.R k37 37 wc w.heap.size (fun k_ => some k_ ≠ ((.slice Ao30 t211.length co30) : Value).ownBlock ∧ some k_ ≠ ((.slice Ao40 t238.length co40) : Value).ownBlock ∧ some k_ ≠ ((.slice Ao48 t226.length co48) : Value).ownBlock) (.slice Ao136 t252.length co136) t252) ∧ Aside0 (wc.heap[gb199]? = some (.cells #[.int .i64 a0_0, (.slice A0_1 l0_1.length c0_1)] 24 (0, 0))) ∧ Aside0 (wc.heap[gb200]? = some (.cells #[.int .i64 a1_0, .int .i64 a1_1, .int .i64 a1_2, .int .i64 a1_3] 34 (0, 0))) ∧ Aside0 (wc.heap[gb215]? = some (.cells #[.int .i64 t210, (.slice Ao30 t211.length co30)] 29 (0, 0))) ∧ Aside0 (wc.heap[gb220]? = some (.cells #[.int .i64 t216, (.slice Ao40 t238.length co40)] 29 (0, 0))) ∧ Aside0 (wc.heap[gb230]? = some (.cells #[.int .i64 t225, (.slice Ao48 t226.length co48)] 29 (0, 0))) ∧ Aside0 (wc.heap[gb256]? = some (.cells #[.int .i64 t251, (.slice Ao136 t252.length co136)] 29 (0, 0))) ∧ Aside0 (Below w.heap.size w wc))
           case first =>
            have H := HC119.out
            clear HC119
            replace H := Option.bind_eq_some_iff.mp H
            obtain ⟨t257, A1380, H⟩ := H
            (try dsimp only at H)
            have A138 := Aside0.mk A1380
            clear A1380
            by_cases c139 : t257 = true
            ·subst c139
             rw [if_pos rfl] at H
             have H' := Aside0.mk H
             clear H
             have hnb140 := NB256_199.out
             have hnc140 := NB199_256.out
             have hnb141 := NB256_200.out
             have hnc141 := NB200_256.out
             have hnb142 := NB256_215.out
             have hnc142 := NB215_256.out
             have hnb143 := NB256_220.out
             have hnc143 := NB220_256.out
             have hnb144 := NB256_230.out
             have hnc144 := NB230_256.out
             have hcz145_0 := bc BK256 0 (.int .i64 0)
             have hcz145_1 := bc BK256 1 (.slice none 0 0)
             have hfz145_0 := blk_frozen BK256.out 0
             have hfz145_1 := blk_frozen BK256.out 1
             have hnb146 := NB215_199.out
             have hnc146 := NB199_215.out
             have hnb147 := NB215_200.out
             have hnc147 := NB200_215.out
             have hnb148 := NB215_220.out
             have hnc148 := NB220_215.out
             have hnb149 := NB215_230.out
             have hnc149 := NB230_215.out
             have hcz150_0 := bc BK215 0 (.int .i64 t210)
             have hcz150_1 := bc BK215 1 (.slice Ao30 t211.length co30)
             have hfz150_0 := blk_frozen BK215.out 0
             have hfz150_1 := blk_frozen BK215.out 1
             go_wp2_with (first | ((with_reducible refine gate_callee (f := 10) rfl ?_); refine gl (some 89) Try.func10 #[.agg #[.int .i64 t251, .slice Ao136 t252.length co136], .agg #[.int .i64 t210, .slice Ao30 t211.length co30]] ?_; (with_reducible refine (laws_eqPuzzle.calls kj76 t251 _ _ t252 t210 _ _ t211 true _ ?side1 ?side2 ?side3 ?side4 A138.out).mono ?_); (case side1 => refine (Kd.R_reads' (e := 37) (base := w.heap.size) (ok := fun k_ => (some k_ ≠ (v245 : Value).ownBlock ∧ (some k_ ≠ (.slice Ao30 t211.length co30 : Value).ownBlock ∧ (some k_ ≠ (.slice Ao40 t238.length co40 : Value).ownBlock ∧ some k_ ≠ (.slice Ao48 t226.length co48 : Value).ownBlock)))) (n := t252.length) (c := co136) ?_).2.2; exact (by (with_reducible repeat (first | apply Kd.R_alloc | apply Kd.R_drewN | apply Kd.R_drew)); exact (Kd.R_mono (Kd.R_far (p := ⟨gb256, 1, none⟩) (Kd.R_far (p := ⟨gb256, 0, none⟩) (Kd.R_types HO254.out BK256.out (by decide)) (fun _ hk => hk.2) (.int .i64 t251)) (fun _ hk => hk.2) (.slice Ao136 t252.length co136)) (fun _ h_ => h_.1)))); (case side2 => exact (Kd.R_reads' HO254.out).2.1); (case side3 => refine (Kd.R_reads' (e := 37) (base := w.heap.size) (ok := fun k_ => (some k_ ≠ (v245 : Value).ownBlock ∧ (some k_ ≠ (.slice Ao136 t252.length co136 : Value).ownBlock ∧ (some k_ ≠ (.slice Ao40 t238.length co40 : Value).ownBlock ∧ some k_ ≠ (.slice Ao48 t226.length co48 : Value).ownBlock)))) (n := t211.length) (c := co30) ?_).2.2; exact (by (with_reducible repeat (first | apply Kd.R_alloc | apply Kd.R_drewN | apply Kd.R_drew)); exact (Kd.R_mono (Kd.R_far (p := ⟨gb256, 1, none⟩) (Kd.R_far (p := ⟨gb256, 0, none⟩) (Kd.R_types HO_216001.out BK256.out (by decide)) (fun _ hk => hk.2) (.int .i64 t251)) (fun _ hk => hk.2) (.slice Ao136 t252.length co136)) (fun _ h_ => h_.1)))); (case side4 => exact (Kd.R_reads' HO_216001.out).2.1); rintro e w151 ⟨rfl, hb⟩; refine ⟨_, rfl, ?_⟩; replace HO_216001 := Aside0.mk (Kd.R_below (by (with_reducible repeat (first | apply Kd.R_alloc | apply Kd.R_drewN | apply Kd.R_drew)); exact (Kd.R_mono (Kd.R_far (p := ⟨gb256, 1, none⟩) (Kd.R_far (p := ⟨gb256, 0, none⟩) (Kd.R_types HO_216001.out BK256.out (by decide)) (fun _ hk => hk.2) (.int .i64 t251)) (fun _ hk => hk.2) (.slice Ao136 t252.length co136)) (fun _ h_ => h_.1))) hb); replace HO_221001 := Aside0.mk (Kd.R_below (by (with_reducible repeat (first | apply Kd.R_alloc | apply Kd.R_drewN | apply Kd.R_drew)); exact (Kd.R_mono (Kd.R_far (p := ⟨gb256, 1, none⟩) (Kd.R_far (p := ⟨gb256, 0, none⟩) (Kd.R_types HO_221001.out BK256.out (by decide)) (fun _ hk => hk.2) (.int .i64 t251)) (fun _ hk => hk.2) (.slice Ao136 t252.length co136)) (fun _ h_ => h_.1))) hb); replace HO_231001 := Aside0.mk (Kd.R_below (by (with_reducible repeat (first | apply Kd.R_alloc | apply Kd.R_drewN | apply Kd.R_drew)); exact (Kd.R_mono (Kd.R_far (p := ⟨gb256, 1, none⟩) (Kd.R_far (p := ⟨gb256, 0, none⟩) (Kd.R_types HO_231001.out BK256.out (by decide)) (fun _ hk => hk.2) (.int .i64 t251)) (fun _ hk => hk.2) (.slice Ao136 t252.length co136)) (fun _ h_ => h_.1))) hb); replace HO246 := Aside0.mk (Kd.R_below (by (with_reducible repeat (first | apply Kd.R_alloc | apply Kd.R_drewN | apply Kd.R_drew)); exact (Kd.R_mono (Kd.R_far (p := ⟨gb256, 1, none⟩) (Kd.R_far (p := ⟨gb256, 0, none⟩) (Kd.R_types HO246.out BK256.out (by decide)) (fun _ hk => hk.2) (.int .i64 t251)) (fun _ hk => hk.2) (.slice Ao136 t252.length co136)) (fun _ h_ => h_.1))) hb); replace HO254 := Aside0.mk (Kd.R_below (by (with_reducible repeat (first | apply Kd.R_alloc | apply Kd.R_drewN | apply Kd.R_drew)); exact (Kd.R_mono (Kd.R_far (p := ⟨gb256, 1, none⟩) (Kd.R_far (p := ⟨gb256, 0, none⟩) (Kd.R_types HO254.out BK256.out (by decide)) (fun _ hk => hk.2) (.int .i64 t251)) (fun _ hk => hk.2) (.slice Ao136 t252.length co136)) (fun _ h_ => h_.1))) hb); replace BK199 := Aside0.mk (blk_below (g := gb199) (o := .cells #[.int .i64 a0_0, .slice A0_1 l0_1.length c0_1] 24 (0, 0)) (by (with_reducible repeat (first | refine blk_drewN ?_ _ | refine blk_drew ?_ | refine blk_alloc ?_ _)); refine blk_far ?_ NB199_256.out _; (with_reducible repeat (first | refine blk_drewN ?_ _ | refine blk_drew ?_ | refine blk_alloc ?_ _)); refine blk_far ?_ NB199_256.out _; (with_reducible repeat (first | refine blk_drewN ?_ _ | refine blk_drew ?_ | refine blk_alloc ?_ _)); exact BK199.out) hb); replace BK200 := Aside0.mk (blk_below (g := gb200) (o := .cells #[.int .i64 a1_0, .int .i64 a1_1, .int .i64 a1_2, .int .i64 a1_3] 34 (0, 0)) (by (with_reducible repeat (first | refine blk_drewN ?_ _ | refine blk_drew ?_ | refine blk_alloc ?_ _)); refine blk_far ?_ NB200_256.out _; (with_reducible repeat (first | refine blk_drewN ?_ _ | refine blk_drew ?_ | refine blk_alloc ?_ _)); refine blk_far ?_ NB200_256.out _; (with_reducible repeat (first | refine blk_drewN ?_ _ | refine blk_drew ?_ | refine blk_alloc ?_ _)); exact BK200.out) hb); replace BK215 := Aside0.mk (blk_below (g := gb215) (o := .cells #[.int .i64 t210, .slice Ao30 t211.length co30] 29 (0, 0)) (by (with_reducible repeat (first | refine blk_drewN ?_ _ | refine blk_drew ?_ | refine blk_alloc ?_ _)); refine blk_far ?_ NB215_256.out _; (with_reducible repeat (first | refine blk_drewN ?_ _ | refine blk_drew ?_ | refine blk_alloc ?_ _)); refine blk_far ?_ NB215_256.out _; (with_reducible repeat (first | refine blk_drewN ?_ _ | refine blk_drew ?_ | refine blk_alloc ?_ _)); exact BK215.out) hb); replace BK220 := Aside0.mk (blk_below (g := gb220) (o := .cells #[.int .i64 t216, .slice Ao40 t238.length co40] 29 (0, 0)) (by (with_reducible repeat (first | refine blk_drewN ?_ _ | refine blk_drew ?_ | refine blk_alloc ?_ _)); refine blk_far ?_ NB220_256.out _; (with_reducible repeat (first | refine blk_drewN ?_ _ | refine blk_drew ?_ | refine blk_alloc ?_ _)); refine blk_far ?_ NB220_256.out _; (with_reducible repeat (first | refine blk_drewN ?_ _ | refine blk_drew ?_ | refine blk_alloc ?_ _)); exact BK220.out) hb); replace BK230 := Aside0.mk (blk_below (g := gb230) (o := .cells #[.int .i64 t225, .slice Ao48 t226.length co48] 29 (0, 0)) (by (with_reducible repeat (first | refine blk_drewN ?_ _ | refine blk_drew ?_ | refine blk_alloc ?_ _)); refine blk_far ?_ NB230_256.out _; (with_reducible repeat (first | refine blk_drewN ?_ _ | refine blk_drew ?_ | refine blk_alloc ?_ _)); refine blk_far ?_ NB230_256.out _; (with_reducible repeat (first | refine blk_drewN ?_ _ | refine blk_drew ?_ | refine blk_alloc ?_ _)); exact BK230.out) hb); replace BK256 := Aside0.mk (blk_below (g := gb256) (o := .cells #[.int .i64 t251, .slice Ao136 t252.length co136] 29 (0, 0)) (by (with_reducible repeat (first | refine blk_drewN ?_ _ | refine blk_drew ?_ | refine blk_alloc ?_ _)); refine blk_put (cs := #[.int .i64 t251, .slice none 0 0]) ?_ 1 _ rfl; (with_reducible repeat (first | refine blk_drewN ?_ _ | refine blk_drew ?_ | refine blk_alloc ?_ _)); refine blk_put (cs := #[.int .i64 0, .slice none 0 0]) ?_ 0 _ rfl; (with_reducible repeat (first | refine blk_drewN ?_ _ | refine blk_drew ?_ | refine blk_alloc ?_ _)); exact BK256.out) hb); replace HB := bs hb; (try clear hb)))
             go_meet
             case rel => exact ⟨_, ((t255 != t214)), (rs), H', ⟨by have := HJ15.out; have := HJ76.out; first | omega | exact Nat.le_refl _⟩, ⟨by (try simp only [hl221001_76]); (with_reducible repeat (first | apply Kd.R_alloc | apply Kd.R_drewN | apply Kd.R_drew)); exact Kd.R_mono HO_216001.out (fun _ hk => ⟨hk.2.2.1, ⟨hk.2.2.2, hk.2.1⟩⟩)⟩, ⟨by (try simp only [hl221001_76]); (with_reducible repeat (first | apply Kd.R_alloc | apply Kd.R_drewN | apply Kd.R_drew)); exact Kd.R_mono HO_221001.out (fun _ hk => ⟨hk.2.2.1, ⟨hk.2.2.2, hk.2.1⟩⟩)⟩, ⟨by (try simp only [hl221001_76]); (with_reducible repeat (first | apply Kd.R_alloc | apply Kd.R_drewN | apply Kd.R_drew)); exact Kd.R_mono HO_231001.out (fun _ hk => ⟨hk.2.2.1, ⟨hk.2.2.2, hk.2.1⟩⟩)⟩, ⟨by (try simp only [hl221001_76]); (with_reducible repeat (first | apply Kd.R_alloc | apply Kd.R_drewN | apply Kd.R_drew)); exact Kd.R_mono HO254.out (fun _ hk => ⟨hk.2.1, ⟨hk.2.2.1, hk.2.2.2⟩⟩)⟩, ⟨by (try simp only [hl221001_76]); (with_reducible repeat (first | refine blk_drewN ?_ _ | refine blk_drew ?_ | refine blk_alloc ?_ _)); exact BK199.out⟩, ⟨by (try simp only [hl221001_76]); (with_reducible repeat (first | refine blk_drewN ?_ _ | refine blk_drew ?_ | refine blk_alloc ?_ _)); exact BK200.out⟩, ⟨by (try simp only [hl221001_76]); (with_reducible repeat (first | refine blk_drewN ?_ _ | refine blk_drew ?_ | refine blk_alloc ?_ _)); exact BK215.out⟩, ⟨by (try simp only [hl221001_76]); (with_reducible repeat (first | refine blk_drewN ?_ _ | refine blk_drew ?_ | refine blk_alloc ?_ _)); exact BK220.out⟩, ⟨by (try simp only [hl221001_76]); (with_reducible repeat (first | refine blk_drewN ?_ _ | refine blk_drew ?_ | refine blk_alloc ?_ _)); exact BK230.out⟩, ⟨by (try simp only [hl221001_76]); (with_reducible repeat (first | refine blk_drewN ?_ _ | refine blk_drew ?_ | refine blk_alloc ?_ _)); exact BK256.out⟩, ⟨bw⟩⟩
            ·replace c139 := Bool.eq_false_iff.mpr c139
             subst c139
             rw [if_neg (show ¬ (false = true) by decide)] at H
             have H' := Aside0.mk H
             clear H
             have hnb152 := NB256_199.out
             have hnc152 := NB199_256.out
             have hnb153 := NB256_200.out
             have hnc153 := NB200_256.out
             have hnb154 := NB256_215.out
             have hnc154 := NB215_256.out
             have hnb155 := NB256_220.out
             have hnc155 := NB220_256.out
             have hnb156 := NB256_230.out
             have hnc156 := NB230_256.out
             have hcz157_0 := bc BK256 0 (.int .i64 0)
             have hcz157_1 := bc BK256 1 (.slice none 0 0)
             have hfz157_0 := blk_frozen BK256.out 0
             have hfz157_1 := blk_frozen BK256.out 1
             have hnb158 := NB215_199.out
             have hnc158 := NB199_215.out
             have hnb159 := NB215_200.out
             have hnc159 := NB200_215.out
             have hnb160 := NB215_220.out
             have hnc160 := NB220_215.out
             have hnb161 := NB215_230.out
             have hnc161 := NB230_215.out
             have hcz162_0 := bc BK215 0 (.int .i64 t210)
             have hcz162_1 := bc BK215 1 (.slice Ao30 t211.length co30)
             have hfz162_0 := blk_frozen BK215.out 0
             have hfz162_1 := blk_frozen BK215.out 1
             go_wp2_with (first | ((with_reducible refine gate_callee (f := 10) rfl ?_); refine gl (some 89) Try.func10 #[.agg #[.int .i64 t251, .slice Ao136 t252.length co136], .agg #[.int .i64 t210, .slice Ao30 t211.length co30]] ?_; (with_reducible refine (laws_eqPuzzle.calls kj76 t251 _ _ t252 t210 _ _ t211 false _ ?side1 ?side2 ?side3 ?side4 A138.out).mono ?_); (case side1 => refine (Kd.R_reads' (e := 37) (base := w.heap.size) (ok := fun k_ => (some k_ ≠ (v245 : Value).ownBlock ∧ (some k_ ≠ (.slice Ao30 t211.length co30 : Value).ownBlock ∧ (some k_ ≠ (.slice Ao40 t238.length co40 : Value).ownBlock ∧ some k_ ≠ (.slice Ao48 t226.length co48 : Value).ownBlock)))) (n := t252.length) (c := co136) ?_).2.2; exact (by (with_reducible repeat (first | apply Kd.R_alloc | apply Kd.R_drewN | apply Kd.R_drew)); exact (Kd.R_mono (Kd.R_far (p := ⟨gb256, 1, none⟩) (Kd.R_far (p := ⟨gb256, 0, none⟩) (Kd.R_types HO254.out BK256.out (by decide)) (fun _ hk => hk.2) (.int .i64 t251)) (fun _ hk => hk.2) (.slice Ao136 t252.length co136)) (fun _ h_ => h_.1)))); (case side2 => exact (Kd.R_reads' HO254.out).2.1); (case side3 => refine (Kd.R_reads' (e := 37) (base := w.heap.size) (ok := fun k_ => (some k_ ≠ (v245 : Value).ownBlock ∧ (some k_ ≠ (.slice Ao136 t252.length co136 : Value).ownBlock ∧ (some k_ ≠ (.slice Ao40 t238.length co40 : Value).ownBlock ∧ some k_ ≠ (.slice Ao48 t226.length co48 : Value).ownBlock)))) (n := t211.length) (c := co30) ?_).2.2; exact (by (with_reducible repeat (first | apply Kd.R_alloc | apply Kd.R_drewN | apply Kd.R_drew)); exact (Kd.R_mono (Kd.R_far (p := ⟨gb256, 1, none⟩) (Kd.R_far (p := ⟨gb256, 0, none⟩) (Kd.R_types HO_216001.out BK256.out (by decide)) (fun _ hk => hk.2) (.int .i64 t251)) (fun _ hk => hk.2) (.slice Ao136 t252.length co136)) (fun _ h_ => h_.1)))); (case side4 => exact (Kd.R_reads' HO_216001.out).2.1); rintro e w163 ⟨rfl, hb⟩; refine ⟨_, rfl, ?_⟩; replace HO_216001 := Aside0.mk (Kd.R_below (by (with_reducible repeat (first | apply Kd.R_alloc | apply Kd.R_drewN | apply Kd.R_drew)); exact (Kd.R_mono (Kd.R_far (p := ⟨gb256, 1, none⟩) (Kd.R_far (p := ⟨gb256, 0, none⟩) (Kd.R_types HO_216001.out BK256.out (by decide)) (fun _ hk => hk.2) (.int .i64 t251)) (fun _ hk => hk.2) (.slice Ao136 t252.length co136)) (fun _ h_ => h_.1))) hb); replace HO_221001 := Aside0.mk (Kd.R_below (by (with_reducible repeat (first | apply Kd.R_alloc | apply Kd.R_drewN | apply Kd.R_drew)); exact (Kd.R_mono (Kd.R_far (p := ⟨gb256, 1, none⟩) (Kd.R_far (p := ⟨gb256, 0, none⟩) (Kd.R_types HO_221001.out BK256.out (by decide)) (fun _ hk => hk.2) (.int .i64 t251)) (fun _ hk => hk.2) (.slice Ao136 t252.length co136)) (fun _ h_ => h_.1))) hb); replace HO_231001 := Aside0.mk (Kd.R_below (by (with_reducible repeat (first | apply Kd.R_alloc | apply Kd.R_drewN | apply Kd.R_drew)); exact (Kd.R_mono (Kd.R_far (p := ⟨gb256, 1, none⟩) (Kd.R_far (p := ⟨gb256, 0, none⟩) (Kd.R_types HO_231001.out BK256.out (by decide)) (fun _ hk => hk.2) (.int .i64 t251)) (fun _ hk => hk.2) (.slice Ao136 t252.length co136)) (fun _ h_ => h_.1))) hb); replace HO246 := Aside0.mk (Kd.R_below (by (with_reducible repeat (first | apply Kd.R_alloc | apply Kd.R_drewN | apply Kd.R_drew)); exact (Kd.R_mono (Kd.R_far (p := ⟨gb256, 1, none⟩) (Kd.R_far (p := ⟨gb256, 0, none⟩) (Kd.R_types HO246.out BK256.out (by decide)) (fun _ hk => hk.2) (.int .i64 t251)) (fun _ hk => hk.2) (.slice Ao136 t252.length co136)) (fun _ h_ => h_.1))) hb); replace HO254 := Aside0.mk (Kd.R_below (by (with_reducible repeat (first | apply Kd.R_alloc | apply Kd.R_drewN | apply Kd.R_drew)); exact (Kd.R_mono (Kd.R_far (p := ⟨gb256, 1, none⟩) (Kd.R_far (p := ⟨gb256, 0, none⟩) (Kd.R_types HO254.out BK256.out (by decide)) (fun _ hk => hk.2) (.int .i64 t251)) (fun _ hk => hk.2) (.slice Ao136 t252.length co136)) (fun _ h_ => h_.1))) hb); replace BK199 := Aside0.mk (blk_below (g := gb199) (o := .cells #[.int .i64 a0_0, .slice A0_1 l0_1.length c0_1] 24 (0, 0)) (by (with_reducible repeat (first | refine blk_drewN ?_ _ | refine blk_drew ?_ | refine blk_alloc ?_ _)); refine blk_far ?_ NB199_256.out _; (with_reducible repeat (first | refine blk_drewN ?_ _ | refine blk_drew ?_ | refine blk_alloc ?_ _)); refine blk_far ?_ NB199_256.out _; (with_reducible repeat (first | refine blk_drewN ?_ _ | refine blk_drew ?_ | refine blk_alloc ?_ _)); exact BK199.out) hb); replace BK200 := Aside0.mk (blk_below (g := gb200) (o := .cells #[.int .i64 a1_0, .int .i64 a1_1, .int .i64 a1_2, .int .i64 a1_3] 34 (0, 0)) (by (with_reducible repeat (first | refine blk_drewN ?_ _ | refine blk_drew ?_ | refine blk_alloc ?_ _)); refine blk_far ?_ NB200_256.out _; (with_reducible repeat (first | refine blk_drewN ?_ _ | refine blk_drew ?_ | refine blk_alloc ?_ _)); refine blk_far ?_ NB200_256.out _; (with_reducible repeat (first | refine blk_drewN ?_ _ | refine blk_drew ?_ | refine blk_alloc ?_ _)); exact BK200.out) hb); replace BK215 := Aside0.mk (blk_below (g := gb215) (o := .cells #[.int .i64 t210, .slice Ao30 t211.length co30] 29 (0, 0)) (by (with_reducible repeat (first | refine blk_drewN ?_ _ | refine blk_drew ?_ | refine blk_alloc ?_ _)); refine blk_far ?_ NB215_256.out _; (with_reducible repeat (first | refine blk_drewN ?_ _ | refine blk_drew ?_ | refine blk_alloc ?_ _)); refine blk_far ?_ NB215_256.out _; (with_reducible repeat (first | refine blk_drewN ?_ _ | refine blk_drew ?_ | refine blk_alloc ?_ _)); exact BK215.out) hb); replace BK220 := Aside0.mk (blk_below (g := gb220) (o := .cells #[.int .i64 t216, .slice Ao40 t238.length co40] 29 (0, 0)) (by (with_reducible repeat (first | refine blk_drewN ?_ _ | refine blk_drew ?_ | refine blk_alloc ?_ _)); refine blk_far ?_ NB220_256.out _; (with_reducible repeat (first | refine blk_drewN ?_ _ | refine blk_drew ?_ | refine blk_alloc ?_ _)); refine blk_far ?_ NB220_256.out _; (with_reducible repeat (first | refine blk_drewN ?_ _ | refine blk_drew ?_ | refine blk_alloc ?_ _)); exact BK220.out) hb); replace BK230 := Aside0.mk (blk_below (g := gb230) (o := .cells #[.int .i64 t225, .slice Ao48 t226.length co48] 29 (0, 0)) (by (with_reducible repeat (first | refine blk_drewN ?_ _ | refine blk_drew ?_ | refine blk_alloc ?_ _)); refine blk_far ?_ NB230_256.out _; (with_reducible repeat (first | refine blk_drewN ?_ _ | refine blk_drew ?_ | refine blk_alloc ?_ _)); refine blk_far ?_ NB230_256.out _; (with_reducible repeat (first | refine blk_drewN ?_ _ | refine blk_drew ?_ | refine blk_alloc ?_ _)); exact BK230.out) hb); replace BK256 := Aside0.mk (blk_below (g := gb256) (o := .cells #[.int .i64 t251, .slice Ao136 t252.length co136] 29 (0, 0)) (by (with_reducible repeat (first | refine blk_drewN ?_ _ | refine blk_drew ?_ | refine blk_alloc ?_ _)); refine blk_put (cs := #[.int .i64 t251, .slice none 0 0]) ?_ 1 _ rfl; (with_reducible repeat (first | refine blk_drewN ?_ _ | refine blk_drew ?_ | refine blk_alloc ?_ _)); refine blk_put (cs := #[.int .i64 0, .slice none 0 0]) ?_ 0 _ rfl; (with_reducible repeat (first | refine blk_drewN ?_ _ | refine blk_drew ?_ | refine blk_alloc ?_ _)); exact BK256.out) hb); replace HB := bs hb; (try clear hb)))
             go_meet
             case rel => exact ⟨_, (true), (rs), H', ⟨by have := HJ15.out; have := HJ76.out; first | omega | exact Nat.le_refl _⟩, ⟨by (try simp only [hl221001_76]); (with_reducible repeat (first | apply Kd.R_alloc | apply Kd.R_drewN | apply Kd.R_drew)); exact Kd.R_mono HO_216001.out (fun _ hk => ⟨hk.2.2.1, ⟨hk.2.2.2, hk.2.1⟩⟩)⟩, ⟨by (try simp only [hl221001_76]); (with_reducible repeat (first | apply Kd.R_alloc | apply Kd.R_drewN | apply Kd.R_drew)); exact Kd.R_mono HO_221001.out (fun _ hk => ⟨hk.2.2.1, ⟨hk.2.2.2, hk.2.1⟩⟩)⟩, ⟨by (try simp only [hl221001_76]); (with_reducible repeat (first | apply Kd.R_alloc | apply Kd.R_drewN | apply Kd.R_drew)); exact Kd.R_mono HO_231001.out (fun _ hk => ⟨hk.2.2.1, ⟨hk.2.2.2, hk.2.1⟩⟩)⟩, ⟨by (try simp only [hl221001_76]); (with_reducible repeat (first | apply Kd.R_alloc | apply Kd.R_drewN | apply Kd.R_drew)); exact Kd.R_mono HO254.out (fun _ hk => ⟨hk.2.1, ⟨hk.2.2.1, hk.2.2.2⟩⟩)⟩, ⟨by (try simp only [hl221001_76]); (with_reducible repeat (first | refine blk_drewN ?_ _ | refine blk_drew ?_ | refine blk_alloc ?_ _)); exact BK199.out⟩, ⟨by (try simp only [hl221001_76]); (with_reducible repeat (first | refine blk_drewN ?_ _ | refine blk_drew ?_ | refine blk_alloc ?_ _)); exact BK200.out⟩, ⟨by (try simp only [hl221001_76]); (with_reducible repeat (first | refine blk_drewN ?_ _ | refine blk_drew ?_ | refine blk_alloc ?_ _)); exact BK215.out⟩, ⟨by (try simp only [hl221001_76]); (with_reducible repeat (first | refine blk_drewN ?_ _ | refine blk_drew ?_ | refine blk_alloc ?_ _)); exact BK220.out⟩, ⟨by (try simp only [hl221001_76]); (with_reducible repeat (first | refine blk_drewN ?_ _ | refine blk_drew ?_ | refine blk_alloc ?_ _)); exact BK230.out⟩, ⟨by (try simp only [hl221001_76]); (with_reducible repeat (first | refine blk_drewN ?_ _ | refine blk_drew ?_ | refine blk_alloc ?_ _)); exact BK256.out⟩, ⟨bw⟩⟩
           case rest =>
            clear HC119
            try clear c1
            try clear p2
            try clear c8
            try clear c10
            try clear c12
            try clear c13
            try clear c14
            try clear c15
            try clear c16
            try clear c139
            try clear c140
            try clear c141
            try clear c142
            try clear c143
            try clear c144
            try clear c146
            try clear c147
            try clear c148
            try clear c149
            try clear c152
            try clear c153
            try clear c154
            try clear c155
            try clear c156
            try clear c158
            try clear c159
            try clear c160
            try clear c161
            try clear hcz145_0
            try clear hcz145_1
            try clear hcz150_0
            try clear hcz150_1
            try clear hcz157_0
            try clear hcz157_1
            try clear hcz162_0
            try clear hcz162_1
            try clear hfz145_0
            try clear hfz145_1
            try clear hfz150_0
            try clear hfz150_1
            try clear hfz157_0
            try clear hfz157_1
            try clear hfz162_0
            try clear hfz162_1
            obtain ⟨kq, x95_118, rfl, HA, HJ118, HO_216001, HO_221001, HO_231001, HO_257001, BK199, BK200, BK215, BK220, BK230, BK256, HB⟩ := hcut
            have hl231001_118 := (Kd.R_reads' HO_231001.out).1
            rw [hl231001_118] at HO_231001
            (try simp only [hl231001_118])
            (try simp only [hl231001_118] at BK199)
            (try simp only [hl231001_118] at BK200)
            (try simp only [hl231001_118] at BK215)
            (try simp only [hl231001_118] at BK220)
            (try simp only [hl231001_118] at BK230)
            (try simp only [hl231001_118] at BK256)
            (try simp only [hl231001_118] at HO_216001)
            (try simp only [hl231001_118] at HO_221001)
            (try simp only [hl231001_118] at HO_257001)
            cases kq with
            | zero => exact absurd HA.out (by simp [laws_FnExactAddClue.j2])
            | succ kj118 =>
             have H := HA.out
             clear HA
             simp only [laws_FnExactAddClue.j2] at H
             by_cases c164 : x95_118 = true
             ·subst c164
              rw [if_pos rfl] at H
              exact absurd (Option.some.inj H) (by rw [HRT.out]; decide)
             ·replace c164 := Bool.eq_false_iff.mpr c164
              subst c164
              rw [if_neg (show ¬ (false = true) by decide)] at H
              replace H := Option.bind_eq_some_iff.mp H
              obtain ⟨t258, A1650, H⟩ := H
              (try dsimp only at H)
              have A165 := Aside0.mk A1650
              clear A1650
              by_cases c166 : t258 < 0
              ·rw [if_pos c166] at H
               have c166b0 : decide (t258 < 0) = true := decide_eq_true c166
               clear c166
               exact absurd (Option.some.inj H) (by rw [HRT.out]; decide)
              ·rw [if_neg c166] at H
               have c166b0 : decide (t258 < 0) = false := decide_eq_false c166
               clear c166
               by_cases c167 : t258 = t240
               ·rw [if_pos c167] at H
                have c167b0 : (t258 == t240) = true := beq_iff_eq.mpr c167
                have c167b1 : (t258 != t240) = false := bne_eq_false_iff_eq.mpr c167
                clear c167
                obtain rfl := Option.some.inj H
                have hnb168 := NB230_199.out
                have hnc168 := NB199_230.out
                have hnb169 := NB230_200.out
                have hnc169 := NB200_230.out
                have hnb170 := NB230_215.out
                have hnc170 := NB215_230.out
                have hnb171 := NB230_220.out
                have hnc171 := NB220_230.out
                have hnb172 := NB230_256.out
                have hnc172 := NB256_230.out
                have hcz173_0 : wc.cell? ⟨gb230, 0, none⟩ = some (.int .i64 t225) := ec BK230
                have hcz173_1 : wc.cell? ⟨gb230, 1, none⟩ = some (.slice Ao48 t241.length co48) := ec BK230
                have hfz173_0 := blk_frozen BK230.out 0
                have hfz173_1 := blk_frozen BK230.out 1
                go_wp2_with (first | ((with_reducible refine gate_callee (f := 15) rfl ?_); refine gl (some 98) Try.func15 #[.agg #[.int .i64 t225, .slice Ao48 t241.length co48], .int .i64 1] ?_; (with_reducible refine (laws_heldPuzzle.calls kj118 t225 _ _ t241 1 t258 _ ?side1 ?side2 A165.out).mono ?_); (case side1 => repeat (first | exact (Kd.R_reads' HO_231001.out).2.2 | (with_reducible refine Kd.C_alloc ?_ _) | (with_reducible refine Kd.C_drewN ?_ _) | (with_reducible refine Kd.C_drew ?_))); (case side2 => exact (Kd.R_reads' HO_231001.out).2.1); rintro e w174 ⟨rfl, hb⟩; refine ⟨_, rfl, ?_⟩; replace HO_216001 := Aside0.mk (Kd.R_below (pr HO_216001) hb); replace HO_221001 := Aside0.mk (Kd.R_below (pr HO_221001) hb); replace HO_231001 := Aside0.mk (Kd.R_below (pr HO_231001) hb); replace HO_257001 := Aside0.mk (Kd.R_below (pr HO_257001) hb); replace BK199 := nk BK199 hb; replace BK200 := nk BK200 hb; replace BK215 := nk BK215 hb; replace BK220 := nk BK220 hb; replace BK230 := nk BK230 hb; replace BK256 := nk BK256 hb; replace HB := bs hb; (try clear hb)))
                go_ret
                exact ⟨rs, bw⟩
               ·rw [if_neg c167] at H
                have c167b0 : (t258 == t240) = false := beq_eq_false_iff_ne.mpr c167
                have c167b1 : (t258 != t240) = true := bne_iff_ne.mpr c167
                exact absurd (Option.some.inj H) (by rw [HRT.out]; decide)
          ·rw [if_neg c115] at H
           have c115b0 : (t242 == t240) = false := beq_eq_false_iff_ne.mpr c115
           have c115b1 : (t242 != t240) = true := bne_iff_ne.mpr c115
           exact absurd (Option.some.inj H) (by rw [HRT.out]; decide)
     ·replace c75 := Bool.eq_false_iff.mpr c75
      subst c75
      rw [if_neg (show ¬ (false = true) by decide)] at H
      exact absurd (Option.some.inj H) (by rw [HRT.out]; decide)

end Go.Proofs.Ytphfbldnoinanaa.PFnExactAddClue
