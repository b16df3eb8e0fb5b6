-- Laid by xprint, a program of this session that runs over the kit's print.
import Derived.Test.YtfaakdokcldnkaaGreatDoorPFnRowsGuessedOfAllx13
namespace Go.Proofs.YtfaakdokcldnkaaGreatDoor.PFnRowsGuessedOfAll
open Go.RowKit Go.Proofs.YtfaakdokcldnkaaGreatDoorW.PrintWords Go.Proofs.YtfaakdokcldnkaaGreatDoorW.PrintLast Go.Proofs.YtfaakdokcldnkaaGreatDoorW.PrintMore Go.Proofs.YtfaakdokcldnkaaGreatDoor.Sq
attribute [local go_sem] max2_int min2_int max_two min_two max_three min_three max_four min_four   -- for this text's walks alone
set_option linter.unusedVariables false
set_option linter.unusedSimpArgs false

/-! ### impl_puzzleText: function 40 -/
def impl_puzzleText.l0 : Nat → List ByteArray → List (S42) → Int → Int → Int → List (S42) → Option (ByteArray)
  | 0, _, _, _, _, _, _ => none
  | k + 1, x3, x8, x9, x10, x349000, x349001 => if x10 < x9 then (if 0 ≤ x10 then (if x10 < (x8.length : Int) then ((strconv_Itoa.f ((rd_T42 x8 x10).f0)).bind fun t356 => (if t356.size + 1 ≤ 9223372036854775807 then ((strconv_Itoa.f ((rd_T42 x8 x10).f1)).bind fun t357 => (if (t356 ++ (⟨#[46]⟩ : ByteArray)).size + t357.size ≤ 9223372036854775807 then (if ((t356 ++ (⟨#[46]⟩ : ByteArray)) ++ t357).size + 1 ≤ 9223372036854775807 then ((strconv_Itoa.f ((rd_T42 x8 x10).f2)).bind fun t358 => (if (((t356 ++ (⟨#[46]⟩ : ByteArray)) ++ t357) ++ (⟨#[46]⟩ : ByteArray)).size + t358.size ≤ 9223372036854775807 then (if ((((t356 ++ (⟨#[46]⟩ : ByteArray)) ++ t357) ++ (⟨#[46]⟩ : ByteArray)) ++ t358).size + 1 ≤ 9223372036854775807 then ((strconv_Itoa.f ((rd_T42 x8 x10).f3)).bind fun t359 => (if (((((t356 ++ (⟨#[46]⟩ : ByteArray)) ++ t357) ++ (⟨#[46]⟩ : ByteArray)) ++ t358) ++ (⟨#[46]⟩ : ByteArray)).size + t359.size ≤ 9223372036854775807 then (if x3.length < 8796093022208 then (impl_puzzleText.l0 k (x3 ++ [(((((t356 ++ (⟨#[46]⟩ : ByteArray)) ++ t357) ++ (⟨#[46]⟩ : ByteArray)) ++ t358) ++ (⟨#[46]⟩ : ByteArray)) ++ t359]) x8 x9 (wrap64 (x10 + 1)) x349000 x349001) else (none)) else (none))) else (none)) else (none))) else (none)) else (none))) else (none))) else (none)) else (none)) else ((strconv_Itoa.f x349000).bind fun t352 => (if t352.size + 1 ≤ 9223372036854775807 then ((strings_Join.f x3 (⟨#[44]⟩ : ByteArray)).bind fun t353 => (if (t352 ++ (⟨#[58]⟩ : ByteArray)).size + t353.size ≤ 9223372036854775807 then (some ((t352 ++ (⟨#[58]⟩ : ByteArray)) ++ t353)) else (none))) else (none)))
def impl_puzzleText.f (k : Nat) (a0_0 : Int) (l0_1 : List (S42)) : Option (ByteArray) := impl_puzzleText.l0 k (([] : List ByteArray)) l0_1 (l0_1.length : Int) 0 a0_0 l0_1
theorem impl_puzzleText.mono_l : ∀ k, (∀ y0 y1 y2 y3 y4 y5, LeO (impl_puzzleText.l0 k y0 y1 y2 y3 y4 y5) (impl_puzzleText.l0 (k + 1) y0 y1 y2 y3 y4 y5))
  | 0 => fun _ _ _ _ _ _ r h => by simp [impl_puzzleText.l0] at h
  | k + 1 => by
    have ih0 := impl_puzzleText.mono_l k
    · intro y0 y1 y2 y3 y4 y5
      unfold impl_puzzleText.l0
      repeat' first
      | (with_reducible exact ih0 _ _ _ _ _ _)
      | (with_reducible exact LeO.refl _)
      | (with_reducible exact LeO.none _)
      | (with_reducible refine LeO.ite ?_ ?_)
      | (with_reducible refine LeO.bind ?_ (fun _ => ?_))
      | exact ih0 _ _ _ _ _ _
      | exact LeO.none _
      | refine LeO.ite ?_ ?_
      | refine LeO.bind ?_ (fun _ => ?_)
theorem impl_puzzleText.mono : ∀ a0 a1 k, LeO (impl_puzzleText.f k a0 a1) (impl_puzzleText.f (k + 1) a0 a1) := by
  intro a0 a1 k
  have ih0 := impl_puzzleText.mono_l k
  unfold impl_puzzleText.f
  repeat' first
      | (with_reducible exact ih0 _ _ _ _ _ _)
      | (with_reducible exact LeO.refl _)
      | (with_reducible exact LeO.none _)
      | (with_reducible refine LeO.ite ?_ ?_)
      | (with_reducible refine LeO.bind ?_ (fun _ => ?_))
      | exact ih0 _ _ _ _ _ _
      | exact LeO.none _
      | refine LeO.ite ?_ ?_
      | refine LeO.bind ?_ (fun _ => ?_)
def impl_puzzleText.T5 : Bool × List (List Nat × List Nat) := (true, [([], []), ([], []), ([1], [1]), ([2], [2]), ([3], [3]), ([], []), ([5], [5]), ([6, 3], [6]), ([4, 7], [4, 7]), ([8], [8]), ([], []), ([10], [10]), ([11, 7], [11]), ([9, 12], [9, 12]), ([13], [13]), ([], []), ([15], [15]), ([16, 12], [16]), ([14, 17], [14, 17]), ([18], [18]), ([0, 19, 17], [0, 19]), ([20, 20, 0, 1, 2, 3, 4, 5, 6, 7, 8, 9, 10, 11, 12, 13, 14, 15, 16, 17, 18, 19, 20], [0, 20])])
def impl_puzzleText.B5 : List Nat := [0, 0, 2, 6, 14, 0, 32, 110, 254, 510, 0, 1024, 3310, 8190, 16382, 0, 32768, 105710, 262142, 524286, 1048575, 2097151]
theorem impl_puzzleText.tab5 : rtab .any (opsOf Tryz.f40 5) = impl_puzzleText.T5 := by kernel_rfl
theorem impl_puzzleText.bits5 : waitsOk impl_puzzleText.T5.2 impl_puzzleText.B5 = true := by kernel_rfl
set_option maxHeartbeats 8000000 in
set_option maxRecDepth 100000 in
theorem impl_puzzleText.calls (k : Nat) (a0_0 : Int) (A0_1 : Option Addr) (c0_1 : Nat) (l0_1 : List (S42)) (r : ByteArray) (w : World) (hr0_1 : Kd.C k42 w A0_1 l0_1.length l0_1) (hc0_1 : l0_1.length ≤ c0_1) (h : impl_puzzleText.f k a0_0 l0_1 = some r) :
  Calls Tryz.prog 40 #[.agg #[.int .i64 a0_0, .slice A0_1 l0_1.length c0_1]] w fun e w' => e = .returned (.string r) ∧ Below w.heap.size w w' := by
 have hu24 := Tryz.underlying24
 have hu42 := Tryz.underlying42
 have HR0_1 := Aside0.mk hr0_1
 have HC0_1 := Aside0.mk hc0_1
 clear hr0_1 hc0_1
 have HB := Aside0.mk (Below.refl w.heap.size w)
 unfold impl_puzzleText.f at h
 have H := h
 clear h
 obtain ⟨y349, hy349⟩ : ∃ y_ : List ByteArray, y_ = (([] : List ByteArray)) := ⟨_, rfl⟩
 replace H : (impl_puzzleText.l0 k y349 l0_1 (l0_1.length : Int) 0 a0_0 l0_1) = some r := by first | (rw [hy349]; with_reducible exact H) | (have H2_ := (Option.bind_some _ _).symm.trans H; rw [hy349]; with_reducible exact H2_) | (have H2_ := (Option.bind_some _ _).symm.trans H; with_reducible exact H2_) | with_reducible exact H | (rw [hy349]; exact H) | exact H
 have Ny349 := Aside0.mk hy349
 clear hy349
 have H' := Aside0.mk H
 clear H
 go_enter Tryz.func40, Tryz.ntmps40
 go_wp2_with (first | ((with_reducible refine gd 1 ?_); refine bx 1 24 #[.int .i64 a0_0, .slice A0_1 l0_1.length c0_1] ?_; intro gb348 hg w2 hbox hb; have BK348 := hbox; have GW348 := gs hg; have GE348 := gs hg; replace HB := bs hb; clear hb hbox hg) | ((with_reducible refine gd 6 ?_); refine Kd.R_lit Kd.string _ 9 ?hg (N := 6) ?hd (xs := ([] : List ByteArray)) (inner := []) (ok := fun _ => True) (okp := fun _ => True) ?hr ?hp (fun _ hk => hk) trivial (Below.refl _ _) (Nat.le_refl _) (by simp) ?_; (case hd => rfl); (case hg => rfl); (case hr => first | (go_simp; done) | (go_simp; rfl)); (case hp => exact (Reps.none _ _)); intro v350 w3 ho4 hb hg_ hnew_; clear hg_ hnew_; (first | rw [← Ny349.out] at ho4 | (simp only [Int.reduceToNat] at ho4; rw [← Ny349.out] at ho4)); have HO351 := Aside0.mk (Kd.R_lower ho4 (below_size bw)); replace BK348 := nk BK348 hb; replace HB := bs hb; clear hb ho4; obtain ⟨hcz5_0, hcz5_1, hfz5_0, hfz5_1⟩ := z2 BK348))
 go_loopg [3, 10] k (fun kq v3 v10 w' => ∃ (x3_1 : List ByteArray) (x10_1 : Int), v10 = .int .i64 x10_1 ∧ Aside0 (impl_puzzleText.l0 kq x3_1 l0_1 (l0_1.length : Int) x10_1 a0_0 l0_1 = some r) ∧ Aside0 (kq ≤ k) ∧ Aside0 (Kd.R Kd.string 9 w' w.heap.size (fun _ => True) v3 x3_1) ∧ Aside0 (w'.heap[gb348]? = some (.cells #[.int .i64 a0_0, (.slice A0_1 l0_1.length c0_1)] 24 (0, 0))) ∧ Aside0 (Below w.heap.size w w'))
 case atStart => exact ⟨(y349), (0), (rs), H', ⟨Nat.le_refl _⟩, ⟨pr HO351⟩, ⟨pk BK348⟩, ⟨bw⟩⟩
 case round =>
  clear H'
  try clear p2
  try clear c4
  try clear hcz5_0
  try clear hcz5_1
  try clear hfz5_0
  try clear hfz5_1
  obtain ⟨x3_1, x10_1, rfl, HA, HK1, HO_3, BK348, HB⟩ := hrel
  cases gk with
  | zero => exact absurd HA.out (by simp [impl_puzzleText.l0])
  | succ k1 =>
   have H := HA.out
   clear HA
   simp only [impl_puzzleText.l0] at H
   by_cases c6 : x10_1 < (l0_1.length : Int)
   ·rw [if_pos c6] at H
    have c6b0 := decide_eq_true c6
    clear c6
    obtain ⟨c7, H⟩ := oi H
    have c7b0 := decide_eq_true c7
    clear c7
    obtain ⟨c8, H⟩ := oi H
    have c8b0 := decide_eq_true c8
    clear c8
    obtain ⟨t356, A9, H⟩ := ob H
    (try dsimp only at H)
    obtain ⟨c10, H⟩ := oi H
    have c10b0 := eq_true c10
    have c10b1 := decide_eq_true c10
    try have c10b2 : (9223372036854775807 < t356.size + 1) = False := eq_false (Nat.not_lt.2 c10)
    obtain ⟨t357, A11, H⟩ := ob H
    (try dsimp only at H)
    obtain ⟨c12, H⟩ := oi H
    have c12b0 := eq_true c12
    have c12b1 := decide_eq_true c12
    try have c12b2 : (9223372036854775807 < (t356 ++ (⟨#[46]⟩ : ByteArray)).size + t357.size) = False := eq_false (Nat.not_lt.2 c12)
    try have c12b3 : (9223372036854775807 < t356.size + 1 + t357.size) = False := eq_false (by have h9_ := c12; clear H; simp only [ByteArray.size_append, ByteArray.size_extract] at h9_; simp only [eq_iff_iff, iff_true, iff_false] at *; have z9_ : (⟨#[46]⟩ : ByteArray).size = 1 := rfl; omega)
    obtain ⟨c13, H⟩ := oi H
    have c13b0 := eq_true c13
    have c13b1 := decide_eq_true c13
    try have c13b2 : (9223372036854775807 < ((t356 ++ (⟨#[46]⟩ : ByteArray)) ++ t357).size + 1) = False := eq_false (Nat.not_lt.2 c13)
    try have c13b3 : (9223372036854775807 < t356.size + 1 + t357.size + 1) = False := eq_false (by have h9_ := c13; clear H; simp only [ByteArray.size_append, ByteArray.size_extract] at h9_; simp only [eq_iff_iff, iff_true, iff_false] at *; have z9_ : (⟨#[46]⟩ : ByteArray).size = 1 := rfl; omega)
    obtain ⟨t358, A14, H⟩ := ob H
    (try dsimp only at H)
    obtain ⟨c15, H⟩ := oi H
    have c15b0 := eq_true c15
    have c15b1 := decide_eq_true c15
    try have c15b2 : (9223372036854775807 < (((t356 ++ (⟨#[46]⟩ : ByteArray)) ++ t357) ++ (⟨#[46]⟩ : ByteArray)).size + t358.size) = False := eq_false (Nat.not_lt.2 c15)
    try have c15b3 : (9223372036854775807 < t356.size + 1 + t357.size + 1 + t358.size) = False := eq_false (by have h9_ := c15; clear H; simp only [ByteArray.size_append, ByteArray.size_extract] at h9_; simp only [eq_iff_iff, iff_true, iff_false] at *; have z9_ : (⟨#[46]⟩ : ByteArray).size = 1 := rfl; omega)
    obtain ⟨c16, H⟩ := oi H
    have c16b0 := eq_true c16
    have c16b1 := decide_eq_true c16
    try have c16b2 : (9223372036854775807 < ((((t356 ++ (⟨#[46]⟩ : ByteArray)) ++ t357) ++ (⟨#[46]⟩ : ByteArray)) ++ t358).size + 1) = False := eq_false (Nat.not_lt.2 c16)
    try have c16b3 : (9223372036854775807 < t356.size + 1 + t357.size + 1 + t358.size + 1) = False := eq_false (by have h9_ := c16; clear H; simp only [ByteArray.size_append, ByteArray.size_extract] at h9_; simp only [eq_iff_iff, iff_true, iff_false] at *; have z9_ : (⟨#[46]⟩ : ByteArray).size = 1 := rfl; omega)
    obtain ⟨t359, A17, H⟩ := ob H
    (try dsimp only at H)
    obtain ⟨c18, H⟩ := oi H
    have c18b0 := eq_true c18
    have c18b1 := decide_eq_true c18
    try have c18b2 : (9223372036854775807 < (((((t356 ++ (⟨#[46]⟩ : ByteArray)) ++ t357) ++ (⟨#[46]⟩ : ByteArray)) ++ t358) ++ (⟨#[46]⟩ : ByteArray)).size + t359.size) = False := eq_false (Nat.not_lt.2 c18)
    try have c18b3 : (9223372036854775807 < t356.size + 1 + t357.size + 1 + t358.size + 1 + t359.size) = False := eq_false (by have h9_ := c18; clear H; simp only [ByteArray.size_append, ByteArray.size_extract] at h9_; simp only [eq_iff_iff, iff_true, iff_false] at *; have z9_ : (⟨#[46]⟩ : ByteArray).size = 1 := rfl; omega)
    obtain ⟨c19, H⟩ := oi H
    have LMc19 := Aside0.mk c19
    clear c19
    obtain ⟨y360, hy360⟩ : ∃ y_ : List ByteArray, y_ = (x3_1 ++ [(((((t356 ++ (⟨#[46]⟩ : ByteArray)) ++ t357) ++ (⟨#[46]⟩ : ByteArray)) ++ t358) ++ (⟨#[46]⟩ : ByteArray)) ++ t359]) := ⟨_, rfl⟩
    replace H : (impl_puzzleText.l0 k1 y360 l0_1 (l0_1.length : Int) (wrap64 (x10_1 + 1)) a0_0 l0_1) = some r := by first | (rw [hy360]; with_reducible exact H) | (have H2_ := (Option.bind_some _ _).symm.trans H; rw [hy360]; with_reducible exact H2_) | (have H2_ := (Option.bind_some _ _).symm.trans H; with_reducible exact H2_) | with_reducible exact H | (rw [hy360]; exact H) | exact H
    have Ny360 := Aside0.mk hy360
    clear hy360
    have H' := Aside0.mk H
    clear H
    have p354 : 0 ≤ (x10_1 : Int) := of_decide_eq_true asm
    have q354 : x10_1 < (l0_1.length : Int) := of_decide_eq_true asm
    obtain ⟨ad354, e354, hx354_0, hx354_1, hx354_2, hx354_3⟩ := at_T42 HR0_1.out x10_1 p354 q354
    cases e354
    replace hx354_0 := (HB.out.cell (World.block_lt_of_cell? w _ hx354_0)).trans hx354_0
    replace hx354_1 := (HB.out.cell (World.block_lt_of_cell? w _ hx354_1)).trans hx354_1
    replace hx354_2 := (HB.out.cell (World.block_lt_of_cell? w _ hx354_2)).trans hx354_2
    replace hx354_3 := (HB.out.cell (World.block_lt_of_cell? w _ hx354_3)).trans hx354_3
    replace p354 := eq_true p354
    replace q354 := eq_true q354
    try go_wp2_with (first | ((with_reducible refine gd 5 ?_); refine bx 5 42 #[.int .i64 0, .int .i64 0, .int .i64 0, .int .i64 0] ?_; intro gb355 hg w20 hbox hb; replace HO_3 := rl HO_3 hb; have BK355 := hbox; have GW355 := gs hg; have GE355 := gs hg; replace HB := bs hb; have ⟨NB348_355, NB355_348⟩ := nn BK348 hg; replace BK348 := nk BK348 hb; clear hb hbox hg; have hnb21 := nb NB355_348; have hz22 := z4 BK355))
    have n0_ : Aside0 (Kd.R Kd.string 9 ((((w20.setCell ⟨gb355, 0, none⟩ (.int .i64 ((rd_T42 l0_1 x10_1).f0))).setCell ⟨gb355, 1, none⟩ (.int .i64 ((rd_T42 l0_1 x10_1).f1))).setCell ⟨gb355, 2, none⟩ (.int .i64 ((rd_T42 l0_1 x10_1).f2))).setCell ⟨gb355, 3, none⟩ (.int .i64 ((rd_T42 l0_1 x10_1).f3))) w.heap.size (fun _ => True) u3 x3_1) := ⟨by (with_reducible repeat (first | apply Kd.R_alloc | apply Kd.R_drewN | apply Kd.R_drew)); exact Kd.R_mono (Kd.R_far (p := ⟨gb355, 3, none⟩) (Kd.R_far (p := ⟨gb355, 2, none⟩) (Kd.R_far (p := ⟨gb355, 1, none⟩) (Kd.R_far (p := ⟨gb355, 0, none⟩) (Kd.R_types HO_3.out BK355.out (by decide)) (fun _ hk => hk.2) (.int .i64 ((rd_T42 l0_1 x10_1).f0))) (fun _ hk => hk.2) (.int .i64 ((rd_T42 l0_1 x10_1).f1))) (fun _ hk => hk.2) (.int .i64 ((rd_T42 l0_1 x10_1).f2))) (fun _ hk => hk.2) (.int .i64 ((rd_T42 l0_1 x10_1).f3))) (fun _ hk => trivial)⟩
    have n1_ : Aside0 (((((w20.setCell ⟨gb355, 0, none⟩ (.int .i64 ((rd_T42 l0_1 x10_1).f0))).setCell ⟨gb355, 1, none⟩ (.int .i64 ((rd_T42 l0_1 x10_1).f1))).setCell ⟨gb355, 2, none⟩ (.int .i64 ((rd_T42 l0_1 x10_1).f2))).setCell ⟨gb355, 3, none⟩ (.int .i64 ((rd_T42 l0_1 x10_1).f3))).heap[gb348]? = some (.cells #[.int .i64 a0_0, .slice (some ad354) l0_1.length c0_1] 24 (0, 0))) := ⟨pf BK348⟩
    have n2_ : Aside0 (((((w20.setCell ⟨gb355, 0, none⟩ (.int .i64 ((rd_T42 l0_1 x10_1).f0))).setCell ⟨gb355, 1, none⟩ (.int .i64 ((rd_T42 l0_1 x10_1).f1))).setCell ⟨gb355, 2, none⟩ (.int .i64 ((rd_T42 l0_1 x10_1).f2))).setCell ⟨gb355, 3, none⟩ (.int .i64 ((rd_T42 l0_1 x10_1).f3))).heap[gb355]? = some (.cells #[.int .i64 ((rd_T42 l0_1 x10_1).f0), .int .i64 ((rd_T42 l0_1 x10_1).f1), .int .i64 ((rd_T42 l0_1 x10_1).f2), .int .i64 ((rd_T42 l0_1 x10_1).f3)] 42 (0, 0))) := ⟨pz BK355⟩
    have n3_ : Aside0 (Below w.heap.size w ((((w20.setCell ⟨gb355, 0, none⟩ (.int .i64 ((rd_T42 l0_1 x10_1).f0))).setCell ⟨gb355, 1, none⟩ (.int .i64 ((rd_T42 l0_1 x10_1).f1))).setCell ⟨gb355, 2, none⟩ (.int .i64 ((rd_T42 l0_1 x10_1).f2))).setCell ⟨gb355, 3, none⟩ (.int .i64 ((rd_T42 l0_1 x10_1).f3)))) := ⟨bw⟩
    (try clear HO_3)
    (try clear BK348)
    (try clear BK355)
    (try clear HB)
    generalize ((((w20.setCell ⟨gb355, 0, none⟩ (.int .i64 ((rd_T42 l0_1 x10_1).f0))).setCell ⟨gb355, 1, none⟩ (.int .i64 ((rd_T42 l0_1 x10_1).f1))).setCell ⟨gb355, 2, none⟩ (.int .i64 ((rd_T42 l0_1 x10_1).f2))).setCell ⟨gb355, 3, none⟩ (.int .i64 ((rd_T42 l0_1 x10_1).f3))) = w23 at n0_ n1_ n2_ n3_ ⊢
    have HO_3 := n0_
    have BK348 := n1_
    have BK355 := n2_
    have HB := n3_
    clear n0_ n1_ n2_ n3_
    replace HO_3 := Aside0.mk (Kd.R_drew HO_3.out)
    replace BK348 := Aside0.mk (blk_drew BK348.out)
    replace BK355 := Aside0.mk (blk_drew BK355.out)
    replace HB := Aside0.mk (below_drew1 HB.out)
    refine start_ (n := 22) (S := fun w' => w'.cell? ⟨gb355, 0, none⟩ = some (.int .i64 ((rd_T42 l0_1 x10_1).f0)) ∧ w'.cell? ⟨gb355, 1, none⟩ = some (.int .i64 ((rd_T42 l0_1 x10_1).f1)) ∧ w'.cell? ⟨gb355, 2, none⟩ = some (.int .i64 ((rd_T42 l0_1 x10_1).f2)) ∧ w'.cell? ⟨gb355, 3, none⟩ = some (.int .i64 ((rd_T42 l0_1 x10_1).f3))) (ds := []) (tb 22 0) (by kernel_rfl) rfl rfl ⟨ec BK355, ec BK355, ec BK355, ec BK355⟩ (fun hHeld => ?_); refine with_tabW impl_puzzleText.tab5 impl_puzzleText.bits5 (fun HT_ HW_ => ?_)
    generalize w23.drew = w24 at HO_3 BK348 BK355 HB hHeld ⊢
    refine pu 0 (some 14) (tb 22 1) ?_
    refine pu 1 (some 15) (tb 22 3) ?_
    refine pu 5 (some 19) (tb 22 35) ?_
    refine pu 10 (some 24) (tb 22 1059) ?_
    refine pu 15 (some 29) (tb 22 33827) ?_
    refine tk 2 (some 16) (tb 22 33831) hHeld ?_
    refine tk 6 (some 20) (tb 22 33895) hHeld ?_
    refine tk 11 (some 25) (tb 22 35943) hHeld ?_
    refine tk 16 (some 30) (tb 22 101479) hHeld ?_
    refine one_ (i := 3) (N := some 17) (tb 22 101487) rfl rfl (one_of HT_.out (by kernel_rfl)) (by decide) (fun K hK => ?_)
    refine go1 Tryz.func61 #[.int .i64 ((rd_T42 l0_1 x10_1).f0)] ?_
    with_reducible refine (strconv_Itoa.calls ((rd_T42 l0_1 x10_1).f0) t356 _ A9.out).mono ?_
    rintro e w25 ⟨rfl, hb⟩
    refine ⟨_, rfl, ?_⟩
    replace HO_3 := rl HO_3 hb
    replace BK348 := nk BK348 hb
    replace BK355 := nk BK355 hb
    replace HB := bs hb
    (try clear hb)
    refine hK.out _ _ ⟨ec BK355, ec BK355, ec BK355, ec BK355⟩ (fun hHeld => ?_)
    clear hK K
    refine nm (some 17) ?_
    refine pu 4 (some 18) (tb 22 101503) ?_
    refine one_ (i := 7) (N := some 21) (tb 22 101631) rfl rfl (one_of HT_.out (by kernel_rfl)) (by decide) (fun K hK => ?_)
    refine go1 Tryz.func61 #[.int .i64 ((rd_T42 l0_1 x10_1).f1)] ?_
    with_reducible refine (strconv_Itoa.calls ((rd_T42 l0_1 x10_1).f1) t357 _ A11.out).mono ?_
    rintro e w26 ⟨rfl, hb⟩
    refine ⟨_, rfl, ?_⟩
    replace HO_3 := rl HO_3 hb
    replace BK348 := nk BK348 hb
    replace BK355 := nk BK355 hb
    replace HB := bs hb
    (try clear hb)
    refine hK.out _ _ ⟨ec BK355, ec BK355, ec BK355, ec BK355⟩ (fun hHeld => ?_)
    clear hK K
    refine nm (some 21) ?_
    refine pu 8 (some 22) (tb 22 101887) ?_
    refine pu 9 (some 23) (tb 22 102399) ?_
    refine one_ (i := 12) (N := some 26) (tb 22 106495) rfl rfl (one_of HT_.out (by kernel_rfl)) (by decide) (fun K hK => ?_)
    refine go1 Tryz.func61 #[.int .i64 ((rd_T42 l0_1 x10_1).f2)] ?_
    with_reducible refine (strconv_Itoa.calls ((rd_T42 l0_1 x10_1).f2) t358 _ A14.out).mono ?_
    rintro e w27 ⟨rfl, hb⟩
    refine ⟨_, rfl, ?_⟩
    replace HO_3 := rl HO_3 hb
    replace BK348 := nk BK348 hb
    replace BK355 := nk BK355 hb
    replace HB := bs hb
    (try clear hb)
    refine hK.out _ _ ⟨ec BK355, ec BK355, ec BK355, ec BK355⟩ (fun hHeld => ?_)
    clear hK K
    refine nm (some 26) ?_
    refine pu 13 (some 27) (tb 22 114687) ?_
    refine pu 14 (some 28) (tb 22 131071) ?_
    refine one_ (i := 17) (N := some 31) (tb 22 262143) rfl rfl (one_of HT_.out (by kernel_rfl)) (by decide) (fun K hK => ?_)
    refine go1 Tryz.func61 #[.int .i64 ((rd_T42 l0_1 x10_1).f3)] ?_
    with_reducible refine (strconv_Itoa.calls ((rd_T42 l0_1 x10_1).f3) t359 _ A17.out).mono ?_
    rintro e w28 ⟨rfl, hb⟩
    refine ⟨_, rfl, ?_⟩
    replace HO_3 := rl HO_3 hb
    replace BK348 := nk BK348 hb
    replace BK355 := nk BK355 hb
    replace HB := bs hb
    (try clear hb)
    refine hK.out _ _ ⟨ec BK355, ec BK355, ec BK355, ec BK355⟩ (fun hHeld => ?_)
    clear hK K
    refine nm (some 31) ?_
    refine pu 18 (some 32) (tb 22 524287) ?_
    refine one_ (i := 19) (N := some 33) (tb 22 1048575) rfl rfl (one_of HT_.out (by kernel_rfl)) (by decide) (fun K hK => ?_)
    refine value_ (w1 := ?_) (v := ?_) (by rfl) rfl ?_ ?_
    rotate_left 2
    ·go_simp
     constructor
     ·rfl
     rfl
    refine hK.out _ _ ⟨(blk_cell (blk_alloc BK355.out _) 0).trans rfl, (blk_cell (blk_alloc BK355.out _) 1).trans rfl, (blk_cell (blk_alloc BK355.out _) 2).trans rfl, (blk_cell (blk_alloc BK355.out _) 3).trans rfl⟩ (fun hHeld => ?_)
    clear hK K
    refine nm (some 33) ?_
    refine one_ (i := 20) (N := some 34) (tb 22 2097151) rfl rfl (one_of HT_.out (by kernel_rfl)) (by decide) (fun K hK => ?_)
    refine Kd.R_append_step Kd.string (w0 := w) w.heap.size (by rfl) (.tmp 14) (.tmp 33) 25 9 (.string ⟨#[]⟩) 16 rfl Tryz.underlying25 info9 rfl (by decide) (by omega) u3 x3_1 ((((((t356 ++ (⟨#[46]⟩ : ByteArray)) ++ t357) ++ (⟨#[46]⟩ : ByteArray)) ++ t358) ++ (⟨#[46]⟩ : ByteArray)) ++ t359) [.string ((((((t356 ++ (⟨#[46]⟩ : ByteArray)) ++ t357) ++ (⟨#[46]⟩ : ByteArray)) ++ t358) ++ (⟨#[46]⟩ : ByteArray)) ++ t359)] (fun _ => True) (fun _ => False) rfl rfl ?aP (fun _ hk => hk.elim) ?aF ?aO ?aB ?aS ?aL ?_
    (case aP => exact rfl)
    (case aB => exact bw)
    (case aF => exact (fun _ _ => trivial))
    (case aO => exact (pr HO_3))
    (case aS => exact (below_size bw))
    (case aL => have := LMc19.out; omega)
    intro v361 w29 ho hb hg hat
    rw [← Ny360.out] at ho
    have n0_ := Aside0.mk (blk_grown (pk BK348) hg (Kd.R_ne HO_3.out BK348.out (by decide)))
    have n1_ := Aside0.mk (blk_grown (pk BK355) hg (Kd.R_ne HO_3.out BK355.out (by decide)))
    have n2_ := Aside0.mk (hb)
    have n3_ := Aside0.mk (ho)
    clear BK348
    clear BK355
    clear HB
    clear HO_3
    have BK348 := n0_
    have BK355 := n1_
    have HB := n2_
    have HO362 := n3_
    clear n0_ n1_ n2_ n3_
    clear ho hb hg hat
    refine hK.out _ _ ⟨ec BK355, ec BK355, ec BK355, ec BK355⟩ (fun hHeld => ?_)
    clear hK K
    refine nm (some 34) ?_
    refine pu 21 (some 3) (tb 22 4194303) ?_
    refine done_ (done_of HT_.out (by kernel_rfl)) ?_
    try go_wp2
    go_roundg k1
    case measure => have := HK1.out; omega
    case rel => exact ⟨(y360), (wrap64 (x10_1 + 1)), (rs), H', ⟨by have := HK1.out; omega⟩, ⟨pr HO362⟩, ⟨pk BK348⟩, ⟨bw⟩⟩
   rw [if_neg c6] at H
   have c6b0 := decide_eq_false c6
   clear c6
   obtain ⟨t352, A30, H⟩ := ob H
   (try dsimp only at H)
   obtain ⟨c31, H⟩ := oi H
   have c31b0 := eq_true c31
   have c31b1 := decide_eq_true c31
   try have c31b2 : (9223372036854775807 < t352.size + 1) = False := eq_false (Nat.not_lt.2 c31)
   obtain ⟨t353, A32, H⟩ := ob H
   (try dsimp only at H)
   obtain ⟨c33, H⟩ := oi H
   have c33b0 := eq_true c33
   have c33b1 := decide_eq_true c33
   try have c33b2 : (9223372036854775807 < (t352 ++ (⟨#[58]⟩ : ByteArray)).size + t353.size) = False := eq_false (Nat.not_lt.2 c33)
   try have c33b3 : (9223372036854775807 < t352.size + 1 + t353.size) = False := eq_false (by have h9_ := c33; clear H; simp only [ByteArray.size_append, ByteArray.size_extract] at h9_; simp only [eq_iff_iff, iff_true, iff_false] at *; have z9_ : (⟨#[58]⟩ : ByteArray).size = 1 := rfl; omega)
   obtain rfl := Option.some.inj H
   have hcz34_0 : wr.cell? ⟨gb348, 0, none⟩ = some (.int .i64 a0_0) := ec BK348
   have hcz34_1 : wr.cell? ⟨gb348, 1, none⟩ = some (.slice A0_1 l0_1.length c0_1) := ec BK348
   have hfz34_0 := blk_frozen BK348.out 0
   have hfz34_1 := blk_frozen BK348.out 1
   go_wp2_with (first | ((with_reducible refine gc 61 ?_); refine gl (some 38) Tryz.func61 #[.int .i64 a0_0] ?_; (with_reducible refine (strconv_Itoa.calls a0_0 t352 _ A30.out).mono ?_); rintro e w35 ⟨rfl, hb⟩; refine ⟨_, rfl, ?_⟩; replace HO_3 := rl HO_3 hb; replace HB := bs hb; (try clear hb); obtain ⟨Ao36, co36, eo36⟩ := Kd.R_slice HO_3.out; subst eo36) | ((with_reducible refine gc 62 ?_); refine gl (some 41) Tryz.func62 #[.slice Ao36 x3_1.length co36, .string (⟨#[44]⟩ : ByteArray)] ?_; (with_reducible refine (strings_Join.calls _ _ x3_1 (⟨#[44]⟩ : ByteArray) t353 _ ?_ ?_ ?_ A32.out).mono ?_); exact rr HO_3; exact rn HO_3; exact strings_Join_plain HO_3.out; rintro e w37 ⟨rfl, hb⟩; refine ⟨_, rfl, ?_⟩; replace HO_3 := rl HO_3 hb; replace HB := bs hb; (try clear hb)))
   go_ret
   exact ⟨rs, bw⟩
/-! ### impl_PuzzleText: function 20 -/
def impl_PuzzleText.f (k : Nat) (a0_0 : Int) (l0_1 : List (S42)) : Option (ByteArray × Bool) := (impl_isPuzzle.f k a0_0 l0_1).bind fun t364 => (if t364 = true then ((impl_puzzleText.f k a0_0 l0_1).bind fun t365 => (some (t365, true))) else (some ((⟨#[]⟩ : ByteArray), false)))
theorem impl_PuzzleText.mono : ∀ a0 a1 k, LeO (impl_PuzzleText.f k a0 a1) (impl_PuzzleText.f (k + 1) a0 a1) := by
  intro a0 a1 k
  unfold impl_PuzzleText.f
  repeat' first
      | (with_reducible exact impl_isPuzzle.mono _ _ _)
      | (with_reducible exact impl_puzzleText.mono _ _ _)
      | (with_reducible exact LeO.refl _)
      | (with_reducible exact LeO.none _)
      | (with_reducible refine LeO.ite ?_ ?_)
      | (with_reducible refine LeO.bind ?_ (fun _ => ?_))
      | exact impl_isPuzzle.mono _ _ _
      | exact impl_puzzleText.mono _ _ _
      | exact LeO.none _
      | refine LeO.ite ?_ ?_
      | refine LeO.bind ?_ (fun _ => ?_)
set_option maxHeartbeats 8000000 in
set_option maxRecDepth 100000 in
theorem impl_PuzzleText.calls (k : Nat) (a0_0 : Int) (A0_1 : Option Addr) (c0_1 : Nat) (l0_1 : List (S42)) (r1 : ByteArray) (r2 : Bool) (w : World) (hr0_1 : Kd.C k42 w A0_1 l0_1.length l0_1) (hc0_1 : l0_1.length ≤ c0_1) (h : impl_PuzzleText.f k a0_0 l0_1 = some (r1, r2)) :
  Calls Tryz.prog 20 #[.agg #[.int .i64 a0_0, .slice A0_1 l0_1.length c0_1]] w fun e w' => e = .returned (.tuple #[.string r1, .bool r2]) ∧ Below w.heap.size w w' := by
 have hu24 := Tryz.underlying24
 have HR0_1 := Aside0.mk hr0_1
 have HC0_1 := Aside0.mk hc0_1
 clear hr0_1 hc0_1
 have HB := Aside0.mk (Below.refl w.heap.size w)
 unfold impl_PuzzleText.f at h
 have H := h
 clear h
 obtain ⟨t364, A2, H⟩ := ob H
 (try dsimp only at H)
 go_enter Tryz.func20, Tryz.ntmps20
 go_wp2_with (((with_reducible refine gd 1 ?_); refine bx 1 24 #[.int .i64 a0_0, .slice A0_1 l0_1.length c0_1] ?_; intro gb363 hg w5 hbox hb; have BK363 := hbox; have GW363 := gs hg; have GE363 := gs hg; replace HB := bs hb; clear hb hbox hg; have hz6 := z2 BK363; refine halt ?_))
 by_cases c3 : t364 = true
 ·subst c3
  rw [if_pos rfl] at H
  obtain ⟨t365, A4, H⟩ := ob H
  (try dsimp only at H)
  simp only [Option.some.injEq, Prod.mk.injEq] at H
  obtain ⟨rfl, rfl⟩ := H
  refine Aside0.mk ?_
  try go_wp2_with (first | ((with_reducible refine gc 33 ?_); refine gl (some 5) Tryz.func33 #[.agg #[.int .i64 a0_0, .slice A0_1 l0_1.length c0_1]] ?_; (with_reducible refine (impl_isPuzzle.calls k a0_0 _ _ l0_1 true _ ?_ ?_ A2.out).mono ?_); exact cb HR0_1; exact HC0_1.out; rintro e w7 ⟨rfl, hb⟩; refine ⟨_, rfl, ?_⟩; replace BK363 := nk BK363 hb; replace HB := bs hb; (try clear hb); have hz8 := z2 BK363) | ((with_reducible refine gc 40 ?_); refine gl (some 8) Tryz.func40 #[.agg #[.int .i64 a0_0, .slice A0_1 l0_1.length c0_1]] ?_; (with_reducible refine (impl_puzzleText.calls k a0_0 _ _ l0_1 t365 _ ?_ ?_ A4.out).mono ?_); exact cb HR0_1; exact HC0_1.out; rintro e w9 ⟨rfl, hb⟩; refine ⟨_, rfl, ?_⟩; replace HB := bs hb; (try clear hb)))
  go_ret2
  exact ⟨rs, bw⟩
 replace c3 := Bool.eq_false_iff.mpr c3
 subst c3
 rw [if_neg (show ¬ (false = true) by decide)] at H
 simp only [Option.some.injEq, Prod.mk.injEq] at H
 obtain ⟨rfl, rfl⟩ := H
 refine Aside0.mk ?_
 try go_wp2_with (((with_reducible refine gc 33 ?_); refine gl (some 5) Tryz.func33 #[.agg #[.int .i64 a0_0, .slice A0_1 l0_1.length c0_1]] ?_; (with_reducible refine (impl_isPuzzle.calls k a0_0 _ _ l0_1 false _ ?_ ?_ A2.out).mono ?_); exact cb HR0_1; exact HC0_1.out; rintro e w12 ⟨rfl, hb⟩; refine ⟨_, rfl, ?_⟩; replace HB := bs hb; (try clear hb)))
 go_ret2
 exact ⟨rs, bw⟩

end Go.Proofs.YtfaakdokcldnkaaGreatDoor.PFnRowsGuessedOfAll
