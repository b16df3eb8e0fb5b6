-- Laid by xprint, a program of this session that runs over the kit's print.
import Derived.Test.YthblgfiijakjlaaDoorPFnExactParsePuzzlex0
import Derived.Test.YthblgfiijakjlaaDoorPFnExactParsePuzzlex5
namespace Go.Proofs.YthblgfiijakjlaaDoor.PFnExactParsePuzzle
open Go.RowKit Go.Proofs.YthblgfiijakjlaaDoorW.PrintWords Go.Proofs.YthblgfiijakjlaaDoorW.PrintLast Go.Proofs.YthblgfiijakjlaaDoorW.PrintMore Go.Proofs.YthblgfiijakjlaaDoor.Sq
attribute [local go_sem] max2_int min2_int max_two min_two max_three min_three max_four min_four   -- for this text's walks alone
set_option linter.unusedVariables false
set_option linter.unusedSimpArgs false

/-! ### impl_puzzleText: function 14 -/
def impl_puzzleText.l0 : Nat → List ByteArray → List (S40) → Int → Int → Int → List (S40) → Option (ByteArray)
  | 0, _, _, _, _, _, _ => none
  | k + 1, x3, x8, x9, x10, x188000, x188001 => if x10 < x9 then (if 0 ≤ x10 then (if x10 < (x8.length : Int) then ((strconv_Itoa.f ((rd_T40 x8 x10).f0)).bind fun t195 => (if t195.size + 1 ≤ 9223372036854775807 then ((strconv_Itoa.f ((rd_T40 x8 x10).f1)).bind fun t196 => (if (t195 ++ (⟨#[46]⟩ : ByteArray)).size + t196.size ≤ 9223372036854775807 then (if ((t195 ++ (⟨#[46]⟩ : ByteArray)) ++ t196).size + 1 ≤ 9223372036854775807 then ((strconv_Itoa.f ((rd_T40 x8 x10).f2)).bind fun t197 => (if (((t195 ++ (⟨#[46]⟩ : ByteArray)) ++ t196) ++ (⟨#[46]⟩ : ByteArray)).size + t197.size ≤ 9223372036854775807 then (if ((((t195 ++ (⟨#[46]⟩ : ByteArray)) ++ t196) ++ (⟨#[46]⟩ : ByteArray)) ++ t197).size + 1 ≤ 9223372036854775807 then ((strconv_Itoa.f ((rd_T40 x8 x10).f3)).bind fun t198 => (if (((((t195 ++ (⟨#[46]⟩ : ByteArray)) ++ t196) ++ (⟨#[46]⟩ : ByteArray)) ++ t197) ++ (⟨#[46]⟩ : ByteArray)).size + t198.size ≤ 9223372036854775807 then (if x3.length < 8796093022208 then (impl_puzzleText.l0 k (x3 ++ [(((((t195 ++ (⟨#[46]⟩ : ByteArray)) ++ t196) ++ (⟨#[46]⟩ : ByteArray)) ++ t197) ++ (⟨#[46]⟩ : ByteArray)) ++ t198]) x8 x9 (wrap64 (x10 + 1)) x188000 x188001) else (none)) else (none))) else (none)) else (none))) else (none)) else (none))) else (none))) else (none)) else (none)) else ((strconv_Itoa.f x188000).bind fun t191 => (if t191.size + 1 ≤ 9223372036854775807 then ((strings_Join.f x3 (⟨#[44]⟩ : ByteArray)).bind fun t192 => (if (t191 ++ (⟨#[58]⟩ : ByteArray)).size + t192.size ≤ 9223372036854775807 then (some ((t191 ++ (⟨#[58]⟩ : ByteArray)) ++ t192)) else (none))) else (none)))
def impl_puzzleText.f (k : Nat) (a0_0 : Int) (l0_1 : List (S40)) : Option (ByteArray) := impl_puzzleText.l0 k (([] : List ByteArray)) l0_1 (l0_1.length : Int) 0 a0_0 l0_1
theorem impl_puzzleText.mono_l : ∀ k, (∀ y0 y1 y2 y3 y4 y5, LeO (impl_puzzleText.l0 k y0 y1 y2 y3 y4 y5) (impl_puzzleText.l0 (k + 1) y0 y1 y2 y3 y4 y5))
  | 0 => fun _ _ _ _ _ _ r h => by simp [impl_puzzleText.l0] at h
  | k + 1 => by
    have ih0 := impl_puzzleText.mono_l k
    · intro y0 y1 y2 y3 y4 y5
      unfold impl_puzzleText.l0
      repeat' first
      | (with_reducible exact ih0 _ _ _ _ _ _)
      | (with_reducible exact LeO.refl _)
      | (with_reducible exact LeO.none _)
      | (with_reducible refine LeO.ite ?_ ?_)
      | (with_reducible refine LeO.bind ?_ (fun _ => ?_))
      | exact ih0 _ _ _ _ _ _
      | exact LeO.none _
      | refine LeO.ite ?_ ?_
      | refine LeO.bind ?_ (fun _ => ?_)
theorem impl_puzzleText.mono : ∀ a0 a1 k, LeO (impl_puzzleText.f k a0 a1) (impl_puzzleText.f (k + 1) a0 a1) := by
  intro a0 a1 k
  have ih0 := impl_puzzleText.mono_l k
  unfold impl_puzzleText.f
  repeat' first
      | (with_reducible exact ih0 _ _ _ _ _ _)
      | (with_reducible exact LeO.refl _)
      | (with_reducible exact LeO.none _)
      | (with_reducible refine LeO.ite ?_ ?_)
      | (with_reducible refine LeO.bind ?_ (fun _ => ?_))
      | exact ih0 _ _ _ _ _ _
      | exact LeO.none _
      | refine LeO.ite ?_ ?_
      | refine LeO.bind ?_ (fun _ => ?_)
def impl_puzzleText.T5 : Bool × List (List Nat × List Nat) := (true, [([], []), ([], []), ([1], [1]), ([2], [2]), ([3], [3]), ([], []), ([5], [5]), ([6, 3], [6]), ([4, 7], [4, 7]), ([8], [8]), ([], []), ([10], [10]), ([11, 7], [11]), ([9, 12], [9, 12]), ([13], [13]), ([], []), ([15], [15]), ([16, 12], [16]), ([14, 17], [14, 17]), ([18], [18]), ([0, 19, 17], [0, 19]), ([20, 20, 0, 1, 2, 3, 4, 5, 6, 7, 8, 9, 10, 11, 12, 13, 14, 15, 16, 17, 18, 19, 20], [0, 20])])
def impl_puzzleText.B5 : List Nat := [0, 0, 2, 6, 14, 0, 32, 110, 254, 510, 0, 1024, 3310, 8190, 16382, 0, 32768, 105710, 262142, 524286, 1048575, 2097151]
theorem impl_puzzleText.tab5 : rtab .any (opsOf Tryd.f14 5) = impl_puzzleText.T5 := by kernel_rfl
theorem impl_puzzleText.bits5 : waitsOk impl_puzzleText.T5.2 impl_puzzleText.B5 = true := by kernel_rfl
set_option maxHeartbeats 8000000 in
set_option maxRecDepth 100000 in
theorem impl_puzzleText.calls (k : Nat) (a0_0 : Int) (A0_1 : Option Addr) (c0_1 : Nat) (l0_1 : List (S40)) (r : ByteArray) (w : World) (hr0_1 : Kd.C k40 w A0_1 l0_1.length l0_1) (hc0_1 : l0_1.length ≤ c0_1) (h : impl_puzzleText.f k a0_0 l0_1 = some r) :
  Calls Tryd.prog 14 #[.agg #[.int .i64 a0_0, .slice A0_1 l0_1.length c0_1]] w fun e w' => e = .returned (.string r) ∧ Below w.heap.size w w' := by
 have hu24 := Tryd.underlying24
 have hu40 := Tryd.underlying40
 have HR0_1 := Aside0.mk hr0_1
 have HC0_1 := Aside0.mk hc0_1
 clear hr0_1 hc0_1
 have HB := Aside0.mk (Below.refl w.heap.size w)
 unfold impl_puzzleText.f at h
 have H := h
 clear h
 obtain ⟨y188, hy188⟩ : ∃ y_ : List ByteArray, y_ = (([] : List ByteArray)) := ⟨_, rfl⟩
 replace H : (impl_puzzleText.l0 k y188 l0_1 (l0_1.length : Int) 0 a0_0 l0_1) = some r := by first | (rw [hy188]; with_reducible exact H) | (have H2_ := (Option.bind_some _ _).symm.trans H; rw [hy188]; with_reducible exact H2_) | (have H2_ := (Option.bind_some _ _).symm.trans H; with_reducible exact H2_) | with_reducible exact H | (rw [hy188]; exact H) | exact H
 have Ny188 := Aside0.mk hy188
 clear hy188
 have H' := Aside0.mk H
 clear H
 go_enter Tryd.func14, Tryd.ntmps14
 go_wp2_with (first | ((with_reducible refine gate_dst (N := 1) rfl ?_); refine bx 1 24 #[.int .i64 a0_0, .slice A0_1 l0_1.length c0_1] ?_; intro gb187 hg w2 hbox hb; have BK187 := hbox; have GW187 := gs hg; have GE187 := gs hg; replace HB := bs hb; clear hb hbox hg) | ((with_reducible refine gate_dst (N := 6) rfl ?_); refine Kd.R_lit Kd.string _ 9 ?hg (N := 6) ?hd (xs := ([] : List ByteArray)) (inner := []) (ok := fun _ => True) (okp := fun _ => True) ?hr ?hp (fun _ hk => hk) trivial (Below.refl _ _) (Nat.le_refl _) (by simp) ?_; (case hd => rfl); (case hg => rfl); (case hr => first | (go_simp; done) | (go_simp; rfl)); (case hp => exact (Reps.none _ _)); intro v189 w3 ho4 hb hg_ hnew_; clear hg_ hnew_; (first | rw [← Ny188.out] at ho4 | (simp only [Int.reduceToNat] at ho4; rw [← Ny188.out] at ho4)); have HO190 := Aside0.mk (Kd.R_lower ho4 (below_size bw)); replace BK187 := nk BK187 hb; replace HB := bs hb; clear hb ho4; have hcz5_0 := bc BK187 0 (.int .i64 a0_0); have hcz5_1 := bc BK187 1 (.slice A0_1 l0_1.length c0_1); have hfz5_0 := blk_frozen BK187.out 0; have hfz5_1 := blk_frozen BK187.out 1))
 go_loopg [3, 10] k (fun kq v3 v10 w' => ∃ (x3_1 : List ByteArray) (x10_1 : Int), v10 = .int .i64 x10_1 ∧ Aside0 (impl_puzzleText.l0 kq x3_1 l0_1 (l0_1.length : Int) x10_1 a0_0 l0_1 = some r) ∧ Aside0 (kq ≤ k) ∧ Aside0 (Kd.R Kd.string 9 w' w.heap.size (fun _ => True) v3 x3_1) ∧ Aside0 (w'.heap[gb187]? = some (.cells #[.int .i64 a0_0, (.slice A0_1 l0_1.length c0_1)] 24 (0, 0))) ∧ Aside0 (Below w.heap.size w w'))
 case atStart => exact ⟨(y188), (0), (rs), H', ⟨Nat.le_refl _⟩, ⟨pr HO190⟩, ⟨pk BK187⟩, ⟨bw⟩⟩
 case round =>
  clear H'
  try clear c1
  try clear p2
  try clear hcz5_0
  try clear hcz5_1
  try clear hfz5_0
  try clear hfz5_1
  obtain ⟨x3_1, x10_1, rfl, HA, HK1, HO_3, BK187, HB⟩ := hrel
  cases gk with
  | zero => exact absurd HA.out (by simp [impl_puzzleText.l0])
  | succ k1 =>
   have H := HA.out
   clear HA
   simp only [impl_puzzleText.l0] at H
   by_cases c6 : x10_1 < (l0_1.length : Int)
   ·rw [if_pos c6] at H
    have c6b0 : decide (x10_1 < (l0_1.length : Int)) = true := decide_eq_true c6
    clear c6
    by_cases c7 : 0 ≤ x10_1
    ·rw [if_pos c7] at H
     have c7b0 : decide (0 ≤ x10_1) = true := decide_eq_true c7
     clear c7
     by_cases c8 : x10_1 < (l0_1.length : Int)
     ·rw [if_pos c8] at H
      have c8b0 : decide (x10_1 < (l0_1.length : Int)) = true := decide_eq_true c8
      clear c8
      replace H := Option.bind_eq_some_iff.mp H
      obtain ⟨t195, A90, H⟩ := H
      (try dsimp only at H)
      have A9 := Aside0.mk A90
      clear A90
      by_cases c10 : t195.size + 1 ≤ 9223372036854775807
      ·rw [if_pos c10] at H
       have c10b0 := eq_true c10
       have c10b1 : decide (t195.size + 1 ≤ 9223372036854775807) = true := decide_eq_true c10
       try have c10b2 : (9223372036854775807 < t195.size + 1) = False := eq_false (Nat.not_lt.2 c10)
       replace H := Option.bind_eq_some_iff.mp H
       obtain ⟨t196, A110, H⟩ := H
       (try dsimp only at H)
       have A11 := Aside0.mk A110
       clear A110
       by_cases c12 : (t195 ++ (⟨#[46]⟩ : ByteArray)).size + t196.size ≤ 9223372036854775807
       ·rw [if_pos c12] at H
        have c12b0 := eq_true c12
        have c12b1 : decide ((t195 ++ (⟨#[46]⟩ : ByteArray)).size + t196.size ≤ 9223372036854775807) = true := decide_eq_true c12
        try have c12b2 : (9223372036854775807 < (t195 ++ (⟨#[46]⟩ : ByteArray)).size + t196.size) = False := eq_false (Nat.not_lt.2 c12)
        try have c12b3 : (9223372036854775807 < t195.size + 1 + t196.size) = False := eq_false (by have h9_ := c12; clear H; simp only [ByteArray.size_append, ByteArray.size_extract] at h9_; simp only [eq_iff_iff, iff_true, iff_false] at *; have z9_ : (⟨#[46]⟩ : ByteArray).size = 1 := rfl; omega)
        by_cases c13 : ((t195 ++ (⟨#[46]⟩ : ByteArray)) ++ t196).size + 1 ≤ 9223372036854775807
        ·rw [if_pos c13] at H
         have c13b0 := eq_true c13
         have c13b1 : decide (((t195 ++ (⟨#[46]⟩ : ByteArray)) ++ t196).size + 1 ≤ 9223372036854775807) = true := decide_eq_true c13
         try have c13b2 : (9223372036854775807 < ((t195 ++ (⟨#[46]⟩ : ByteArray)) ++ t196).size + 1) = False := eq_false (Nat.not_lt.2 c13)
         try have c13b3 : (9223372036854775807 < t195.size + 1 + t196.size + 1) = False := eq_false (by have h9_ := c13; clear H; simp only [ByteArray.size_append, ByteArray.size_extract] at h9_; simp only [eq_iff_iff, iff_true, iff_false] at *; have z9_ : (⟨#[46]⟩ : ByteArray).size = 1 := rfl; omega)
         replace H := Option.bind_eq_some_iff.mp H
         obtain ⟨t197, A140, H⟩ := H
         (try dsimp only at H)
         have A14 := Aside0.mk A140
         clear A140
         by_cases c15 : (((t195 ++ (⟨#[46]⟩ : ByteArray)) ++ t196) ++ (⟨#[46]⟩ : ByteArray)).size + t197.size ≤ 9223372036854775807
         ·rw [if_pos c15] at H
          have c15b0 := eq_true c15
          have c15b1 : decide ((((t195 ++ (⟨#[46]⟩ : ByteArray)) ++ t196) ++ (⟨#[46]⟩ : ByteArray)).size + t197.size ≤ 9223372036854775807) = true := decide_eq_true c15
          try have c15b2 : (9223372036854775807 < (((t195 ++ (⟨#[46]⟩ : ByteArray)) ++ t196) ++ (⟨#[46]⟩ : ByteArray)).size + t197.size) = False := eq_false (Nat.not_lt.2 c15)
          try have c15b3 : (9223372036854775807 < t195.size + 1 + t196.size + 1 + t197.size) = False := eq_false (by have h9_ := c15; clear H; simp only [ByteArray.size_append, ByteArray.size_extract] at h9_; simp only [eq_iff_iff, iff_true, iff_false] at *; have z9_ : (⟨#[46]⟩ : ByteArray).size = 1 := rfl; omega)
          by_cases c16 : ((((t195 ++ (⟨#[46]⟩ : ByteArray)) ++ t196) ++ (⟨#[46]⟩ : ByteArray)) ++ t197).size + 1 ≤ 9223372036854775807
          ·rw [if_pos c16] at H
           have c16b0 := eq_true c16
           have c16b1 : decide (((((t195 ++ (⟨#[46]⟩ : ByteArray)) ++ t196) ++ (⟨#[46]⟩ : ByteArray)) ++ t197).size + 1 ≤ 9223372036854775807) = true := decide_eq_true c16
           try have c16b2 : (9223372036854775807 < ((((t195 ++ (⟨#[46]⟩ : ByteArray)) ++ t196) ++ (⟨#[46]⟩ : ByteArray)) ++ t197).size + 1) = False := eq_false (Nat.not_lt.2 c16)
           try have c16b3 : (9223372036854775807 < t195.size + 1 + t196.size + 1 + t197.size + 1) = False := eq_false (by have h9_ := c16; clear H; simp only [ByteArray.size_append, ByteArray.size_extract] at h9_; simp only [eq_iff_iff, iff_true, iff_false] at *; have z9_ : (⟨#[46]⟩ : ByteArray).size = 1 := rfl; omega)
           replace H := Option.bind_eq_some_iff.mp H
           obtain ⟨t198, A170, H⟩ := H
           (try dsimp only at H)
           have A17 := Aside0.mk A170
           clear A170
           by_cases c18 : (((((t195 ++ (⟨#[46]⟩ : ByteArray)) ++ t196) ++ (⟨#[46]⟩ : ByteArray)) ++ t197) ++ (⟨#[46]⟩ : ByteArray)).size + t198.size ≤ 9223372036854775807
           ·rw [if_pos c18] at H
            have c18b0 := eq_true c18
            have c18b1 : decide ((((((t195 ++ (⟨#[46]⟩ : ByteArray)) ++ t196) ++ (⟨#[46]⟩ : ByteArray)) ++ t197) ++ (⟨#[46]⟩ : ByteArray)).size + t198.size ≤ 9223372036854775807) = true := decide_eq_true c18
            try have c18b2 : (9223372036854775807 < (((((t195 ++ (⟨#[46]⟩ : ByteArray)) ++ t196) ++ (⟨#[46]⟩ : ByteArray)) ++ t197) ++ (⟨#[46]⟩ : ByteArray)).size + t198.size) = False := eq_false (Nat.not_lt.2 c18)
            try have c18b3 : (9223372036854775807 < t195.size + 1 + t196.size + 1 + t197.size + 1 + t198.size) = False := eq_false (by have h9_ := c18; clear H; simp only [ByteArray.size_append, ByteArray.size_extract] at h9_; simp only [eq_iff_iff, iff_true, iff_false] at *; have z9_ : (⟨#[46]⟩ : ByteArray).size = 1 := rfl; omega)
            by_cases c19 : x3_1.length < 8796093022208
            ·rw [if_pos c19] at H
             have LMc19 := Aside0.mk c19
             clear c19
             obtain ⟨y199, hy199⟩ : ∃ y_ : List ByteArray, y_ = (x3_1 ++ [(((((t195 ++ (⟨#[46]⟩ : ByteArray)) ++ t196) ++ (⟨#[46]⟩ : ByteArray)) ++ t197) ++ (⟨#[46]⟩ : ByteArray)) ++ t198]) := ⟨_, rfl⟩
             replace H : (impl_puzzleText.l0 k1 y199 l0_1 (l0_1.length : Int) (wrap64 (x10_1 + 1)) a0_0 l0_1) = some r := by first | (rw [hy199]; with_reducible exact H) | (have H2_ := (Option.bind_some _ _).symm.trans H; rw [hy199]; with_reducible exact H2_) | (have H2_ := (Option.bind_some _ _).symm.trans H; with_reducible exact H2_) | with_reducible exact H | (rw [hy199]; exact H) | exact H
             have Ny199 := Aside0.mk hy199
             clear hy199
             have H' := Aside0.mk H
             clear H
             have p193 : 0 ≤ (x10_1 : Int) := of_decide_eq_true (by first | (with_reducible assumption) | assumption)
             have q193 : x10_1 < (l0_1.length : Int) := of_decide_eq_true (by first | (with_reducible assumption) | assumption)
             obtain ⟨ad193, e193, hx193_0, hx193_1, hx193_2, hx193_3⟩ := at_T40 HR0_1.out x10_1 p193 q193
             cases e193
             replace hx193_0 := (HB.out.cell (World.block_lt_of_cell? w _ hx193_0)).trans hx193_0
             replace hx193_1 := (HB.out.cell (World.block_lt_of_cell? w _ hx193_1)).trans hx193_1
             replace hx193_2 := (HB.out.cell (World.block_lt_of_cell? w _ hx193_2)).trans hx193_2
             replace hx193_3 := (HB.out.cell (World.block_lt_of_cell? w _ hx193_3)).trans hx193_3
             replace p193 := eq_true p193
             replace q193 := eq_true q193
             try go_wp2_with (first | ((with_reducible refine gate_dst (N := 5) rfl ?_); refine bx 5 40 #[.int .i64 0, .int .i64 0, .int .i64 0, .int .i64 0] ?_; intro gb194 hg w20 hbox hb; replace HO_3 := Aside0.mk (Kd.R_below (pr HO_3) hb); have BK194 := hbox; have GW194 := gs hg; have GE194 := gs hg; replace HB := bs hb; have NB187_194 := nl BK187 hg; have NB194_187 := ng BK187 hg; replace BK187 := nk BK187 hb; clear hb hbox hg; have hnb21 := NB194_187.out; have hnc21 := NB187_194.out; have hcz22_0 := bc BK194 0 (.int .i64 0); have hcz22_1 := bc BK194 1 (.int .i64 0); have hcz22_2 := bc BK194 2 (.int .i64 0); have hcz22_3 := bc BK194 3 (.int .i64 0); have hfz22_0 := blk_frozen BK194.out 0; have hfz22_1 := blk_frozen BK194.out 1; have hfz22_2 := blk_frozen BK194.out 2; have hfz22_3 := blk_frozen BK194.out 3))
             have n0_ : Aside0 (Kd.R Kd.string 9 ((((w20.setCell ⟨gb194, 0, none⟩ (.int .i64 ((rd_T40 l0_1 x10_1).f0))).setCell ⟨gb194, 1, none⟩ (.int .i64 ((rd_T40 l0_1 x10_1).f1))).setCell ⟨gb194, 2, none⟩ (.int .i64 ((rd_T40 l0_1 x10_1).f2))).setCell ⟨gb194, 3, none⟩ (.int .i64 ((rd_T40 l0_1 x10_1).f3))) w.heap.size (fun _ => True) u3 x3_1) := ⟨by (with_reducible repeat (first | apply Kd.R_alloc | apply Kd.R_drewN | apply Kd.R_drew)); exact Kd.R_mono (Kd.R_far (p := ⟨gb194, 3, none⟩) (Kd.R_far (p := ⟨gb194, 2, none⟩) (Kd.R_far (p := ⟨gb194, 1, none⟩) (Kd.R_far (p := ⟨gb194, 0, none⟩) (Kd.R_types HO_3.out BK194.out (by decide)) (fun _ hk => hk.2) (.int .i64 ((rd_T40 l0_1 x10_1).f0))) (fun _ hk => hk.2) (.int .i64 ((rd_T40 l0_1 x10_1).f1))) (fun _ hk => hk.2) (.int .i64 ((rd_T40 l0_1 x10_1).f2))) (fun _ hk => hk.2) (.int .i64 ((rd_T40 l0_1 x10_1).f3))) (fun _ hk => trivial)⟩
             have n1_ : Aside0 (((((w20.setCell ⟨gb194, 0, none⟩ (.int .i64 ((rd_T40 l0_1 x10_1).f0))).setCell ⟨gb194, 1, none⟩ (.int .i64 ((rd_T40 l0_1 x10_1).f1))).setCell ⟨gb194, 2, none⟩ (.int .i64 ((rd_T40 l0_1 x10_1).f2))).setCell ⟨gb194, 3, none⟩ (.int .i64 ((rd_T40 l0_1 x10_1).f3))).heap[gb187]? = some (.cells #[.int .i64 a0_0, .slice (some ad193) l0_1.length c0_1] 24 (0, 0))) := ⟨by (with_reducible repeat (first | refine blk_drewN ?_ _ | refine blk_drew ?_ | refine blk_alloc ?_ _)); refine blk_far ?_ NB187_194.out _; (with_reducible repeat (first | refine blk_drewN ?_ _ | refine blk_drew ?_ | refine blk_alloc ?_ _)); refine blk_far ?_ NB187_194.out _; (with_reducible repeat (first | refine blk_drewN ?_ _ | refine blk_drew ?_ | refine blk_alloc ?_ _)); refine blk_far ?_ NB187_194.out _; (with_reducible repeat (first | refine blk_drewN ?_ _ | refine blk_drew ?_ | refine blk_alloc ?_ _)); refine blk_far ?_ NB187_194.out _; (with_reducible repeat (first | refine blk_drewN ?_ _ | refine blk_drew ?_ | refine blk_alloc ?_ _)); exact BK187.out⟩
             have n2_ : Aside0 (((((w20.setCell ⟨gb194, 0, none⟩ (.int .i64 ((rd_T40 l0_1 x10_1).f0))).setCell ⟨gb194, 1, none⟩ (.int .i64 ((rd_T40 l0_1 x10_1).f1))).setCell ⟨gb194, 2, none⟩ (.int .i64 ((rd_T40 l0_1 x10_1).f2))).setCell ⟨gb194, 3, none⟩ (.int .i64 ((rd_T40 l0_1 x10_1).f3))).heap[gb194]? = some (.cells #[.int .i64 ((rd_T40 l0_1 x10_1).f0), .int .i64 ((rd_T40 l0_1 x10_1).f1), .int .i64 ((rd_T40 l0_1 x10_1).f2), .int .i64 ((rd_T40 l0_1 x10_1).f3)] 40 (0, 0))) := ⟨by (with_reducible repeat (first | refine blk_drewN ?_ _ | refine blk_drew ?_ | refine blk_alloc ?_ _)); refine blk_put (cs := #[.int .i64 ((rd_T40 l0_1 x10_1).f0), .int .i64 ((rd_T40 l0_1 x10_1).f1), .int .i64 ((rd_T40 l0_1 x10_1).f2), .int .i64 0]) ?_ 3 _ rfl; (with_reducible repeat (first | refine blk_drewN ?_ _ | refine blk_drew ?_ | refine blk_alloc ?_ _)); refine blk_put (cs := #[.int .i64 ((rd_T40 l0_1 x10_1).f0), .int .i64 ((rd_T40 l0_1 x10_1).f1), .int .i64 0, .int .i64 0]) ?_ 2 _ rfl; (with_reducible repeat (first | refine blk_drewN ?_ _ | refine blk_drew ?_ | refine blk_alloc ?_ _)); refine blk_put (cs := #[.int .i64 ((rd_T40 l0_1 x10_1).f0), .int .i64 0, .int .i64 0, .int .i64 0]) ?_ 1 _ rfl; (with_reducible repeat (first | refine blk_drewN ?_ _ | refine blk_drew ?_ | refine blk_alloc ?_ _)); refine blk_put (cs := #[.int .i64 0, .int .i64 0, .int .i64 0, .int .i64 0]) ?_ 0 _ rfl; (with_reducible repeat (first | refine blk_drewN ?_ _ | refine blk_drew ?_ | refine blk_alloc ?_ _)); exact BK194.out⟩
             have n3_ : Aside0 (Below w.heap.size w ((((w20.setCell ⟨gb194, 0, none⟩ (.int .i64 ((rd_T40 l0_1 x10_1).f0))).setCell ⟨gb194, 1, none⟩ (.int .i64 ((rd_T40 l0_1 x10_1).f1))).setCell ⟨gb194, 2, none⟩ (.int .i64 ((rd_T40 l0_1 x10_1).f2))).setCell ⟨gb194, 3, none⟩ (.int .i64 ((rd_T40 l0_1 x10_1).f3)))) := ⟨bw⟩
             (try clear HO_3)
             (try clear BK187)
             (try clear BK194)
             (try clear HB)
             generalize ((((w20.setCell ⟨gb194, 0, none⟩ (.int .i64 ((rd_T40 l0_1 x10_1).f0))).setCell ⟨gb194, 1, none⟩ (.int .i64 ((rd_T40 l0_1 x10_1).f1))).setCell ⟨gb194, 2, none⟩ (.int .i64 ((rd_T40 l0_1 x10_1).f2))).setCell ⟨gb194, 3, none⟩ (.int .i64 ((rd_T40 l0_1 x10_1).f3))) = w23 at n0_ n1_ n2_ n3_ ⊢
             have HO_3 := n0_
             have BK187 := n1_
             have BK194 := n2_
             have HB := n3_
             clear n0_ n1_ n2_ n3_
             replace HO_3 := Aside0.mk (Kd.R_drew HO_3.out)
             replace BK187 := Aside0.mk (blk_drew BK187.out)
             replace BK194 := Aside0.mk (blk_drew BK194.out)
             replace HB := Aside0.mk (below_drew1 HB.out)
             refine start_ (n := 22) (S := fun w' => w'.cell? ⟨gb194, 0, none⟩ = some (.int .i64 ((rd_T40 l0_1 x10_1).f0)) ∧ w'.cell? ⟨gb194, 1, none⟩ = some (.int .i64 ((rd_T40 l0_1 x10_1).f1)) ∧ w'.cell? ⟨gb194, 2, none⟩ = some (.int .i64 ((rd_T40 l0_1 x10_1).f2)) ∧ w'.cell? ⟨gb194, 3, none⟩ = some (.int .i64 ((rd_T40 l0_1 x10_1).f3))) (ds := []) #[false, false, false, false, false, false, false, false, false, false, false, false, false, false, false, false, false, false, false, false, false, false] (by kernel_rfl) rfl rfl ⟨ec BK194, ec BK194, ec BK194, ec BK194⟩ (fun hHeld => ?_); refine with_tabW impl_puzzleText.tab5 impl_puzzleText.bits5 (fun HT_ HW_ => ?_)
             generalize w23.drew = w24 at HO_3 BK187 BK194 HB hHeld ⊢
             refine pu 0 (some 14) #[true, false, false, false, false, false, false, false, false, false, false, false, false, false, false, false, false, false, false, false, false, false] ?_
             refine pu 1 (some 15) #[true, true, false, false, false, false, false, false, false, false, false, false, false, false, false, false, false, false, false, false, false, false] ?_
             refine pu 5 (some 19) #[true, true, false, false, false, true, false, false, false, false, false, false, false, false, false, false, false, false, false, false, false, false] ?_
             refine pu 10 (some 24) #[true, true, false, false, false, true, false, false, false, false, true, false, false, false, false, false, false, false, false, false, false, false] ?_
             refine pu 15 (some 29) #[true, true, false, false, false, true, false, false, false, false, true, false, false, false, false, true, false, false, false, false, false, false] ?_
             refine take_ (i := 2) (N := some 16) (v := ?_) (a' := ?_) #[true, true, true, false, false, true, false, false, false, false, true, false, false, false, false, true, false, false, false, false, false, false] rfl rfl (take_ofW HT_.out HW_.out (by kernel_rfl)) (fun _ _ _ h => h) (Or.inl ⟨by rfl, ?_⟩) hHeld ?_ ?_
             rotate_left
             ·rintro w' ⟨s0, s1, s2, s3⟩
              go_simp
              with_reducible rfl
             rotate_left
             ·simp only [Act.put, List.setIfInBounds_toArray, List.set_cons_zero, List.set_cons_succ, i64_w, i32_w]
              rfl
             refine take_ (i := 6) (N := some 20) (v := ?_) (a' := ?_) #[true, true, true, false, false, true, true, false, false, false, true, false, false, false, false, true, false, false, false, false, false, false] rfl rfl (take_ofW HT_.out HW_.out (by kernel_rfl)) (fun _ _ _ h => h) (Or.inl ⟨by rfl, ?_⟩) hHeld ?_ ?_
             rotate_left
             ·rintro w' ⟨s0, s1, s2, s3⟩
              go_simp
              with_reducible rfl
             rotate_left
             ·simp only [Act.put, List.setIfInBounds_toArray, List.set_cons_zero, List.set_cons_succ, i64_w, i32_w]
              rfl
             refine take_ (i := 11) (N := some 25) (v := ?_) (a' := ?_) #[true, true, true, false, false, true, true, false, false, false, true, true, false, false, false, true, false, false, false, false, false, false] rfl rfl (take_ofW HT_.out HW_.out (by kernel_rfl)) (fun _ _ _ h => h) (Or.inl ⟨by rfl, ?_⟩) hHeld ?_ ?_
             rotate_left
             ·rintro w' ⟨s0, s1, s2, s3⟩
              go_simp
              with_reducible rfl
             rotate_left
             ·simp only [Act.put, List.setIfInBounds_toArray, List.set_cons_zero, List.set_cons_succ, i64_w, i32_w]
              rfl
             refine take_ (i := 16) (N := some 30) (v := ?_) (a' := ?_) #[true, true, true, false, false, true, true, false, false, false, true, true, false, false, false, true, true, false, false, false, false, false] rfl rfl (take_ofW HT_.out HW_.out (by kernel_rfl)) (fun _ _ _ h => h) (Or.inl ⟨by rfl, ?_⟩) hHeld ?_ ?_
             rotate_left
             ·rintro w' ⟨s0, s1, s2, s3⟩
              go_simp
              with_reducible rfl
             rotate_left
             ·simp only [Act.put, List.setIfInBounds_toArray, List.set_cons_zero, List.set_cons_succ, i64_w, i32_w]
              rfl
             refine one_ (i := 3) (N := some 17) #[true, true, true, true, false, true, true, false, false, false, true, true, false, false, false, true, true, false, false, false, false, false] rfl rfl (one_of HT_.out (by kernel_rfl)) (by decide) (fun K hK => ?_)
             refine goes_ Tryd.func30 (by kernel_rfl) rfl #[.int .i64 ((rd_T40 l0_1 x10_1).f0)] (by rfl) rfl rfl (by (try simp only [List.map_toArray, List.map_cons, List.map_nil]); first | done | rfl | (simp only [List.length_drop, List.length_take]; rfl)) ?_
             with_reducible refine (strconv_Itoa.calls ((rd_T40 l0_1 x10_1).f0) t195 _ A9.out).mono ?_
             rintro e w25 ⟨rfl, hb⟩
             refine ⟨_, rfl, ?_⟩
             replace HO_3 := Aside0.mk (Kd.R_below (pr HO_3) hb)
             replace BK187 := nk BK187 hb
             replace BK194 := nk BK194 hb
             replace HB := bs hb
             (try clear hb)
             refine hK.out _ _ ⟨ec BK194, ec BK194, ec BK194, ec BK194⟩ (fun hHeld => ?_)
             clear hK K
             refine nm (some 17) ?_
             refine pu 4 (some 18) #[true, true, true, true, true, true, true, false, false, false, true, true, false, false, false, true, true, false, false, false, false, false] ?_
             refine one_ (i := 7) (N := some 21) #[true, true, true, true, true, true, true, true, false, false, true, true, false, false, false, true, true, false, false, false, false, false] rfl rfl (one_of HT_.out (by kernel_rfl)) (by decide) (fun K hK => ?_)
             refine goes_ Tryd.func30 (by kernel_rfl) rfl #[.int .i64 ((rd_T40 l0_1 x10_1).f1)] (by rfl) rfl rfl (by (try simp only [List.map_toArray, List.map_cons, List.map_nil]); first | done | rfl | (simp only [List.length_drop, List.length_take]; rfl)) ?_
             with_reducible refine (strconv_Itoa.calls ((rd_T40 l0_1 x10_1).f1) t196 _ A11.out).mono ?_
             rintro e w26 ⟨rfl, hb⟩
             refine ⟨_, rfl, ?_⟩
             replace HO_3 := Aside0.mk (Kd.R_below (pr HO_3) hb)
             replace BK187 := nk BK187 hb
             replace BK194 := nk BK194 hb
             replace HB := bs hb
             (try clear hb)
             refine hK.out _ _ ⟨ec BK194, ec BK194, ec BK194, ec BK194⟩ (fun hHeld => ?_)
             clear hK K
             refine nm (some 21) ?_
             refine pu 8 (some 22) #[true, true, true, true, true, true, true, true, true, false, true, true, false, false, false, true, true, false, false, false, false, false] ?_
             refine pu 9 (some 23) #[true, true, true, true, true, true, true, true, true, true, true, true, false, false, false, true, true, false, false, false, false, false] ?_
             refine one_ (i := 12) (N := some 26) #[true, true, true, true, true, true, true, true, true, true, true, true, true, false, false, true, true, false, false, false, false, false] rfl rfl (one_of HT_.out (by kernel_rfl)) (by decide) (fun K hK => ?_)
             refine goes_ Tryd.func30 (by kernel_rfl) rfl #[.int .i64 ((rd_T40 l0_1 x10_1).f2)] (by rfl) rfl rfl (by (try simp only [List.map_toArray, List.map_cons, List.map_nil]); first | done | rfl | (simp only [List.length_drop, List.length_take]; rfl)) ?_
             with_reducible refine (strconv_Itoa.calls ((rd_T40 l0_1 x10_1).f2) t197 _ A14.out).mono ?_
             rintro e w27 ⟨rfl, hb⟩
             refine ⟨_, rfl, ?_⟩
             replace HO_3 := Aside0.mk (Kd.R_below (pr HO_3) hb)
             replace BK187 := nk BK187 hb
             replace BK194 := nk BK194 hb
             replace HB := bs hb
             (try clear hb)
             refine hK.out _ _ ⟨ec BK194, ec BK194, ec BK194, ec BK194⟩ (fun hHeld => ?_)
             clear hK K
             refine nm (some 26) ?_
             refine pu 13 (some 27) #[true, true, true, true, true, true, true, true, true, true, true, true, true, true, false, true, true, false, false, false, false, false] ?_
             refine pu 14 (some 28) #[true, true, true, true, true, true, true, true, true, true, true, true, true, true, true, true, true, false, false, false, false, false] ?_
             refine one_ (i := 17) (N := some 31) #[true, true, true, true, true, true, true, true, true, true, true, true, true, true, true, true, true, true, false, false, false, false] rfl rfl (one_of HT_.out (by kernel_rfl)) (by decide) (fun K hK => ?_)
             refine goes_ Tryd.func30 (by kernel_rfl) rfl #[.int .i64 ((rd_T40 l0_1 x10_1).f3)] (by rfl) rfl rfl (by (try simp only [List.map_toArray, List.map_cons, List.map_nil]); first | done | rfl | (simp only [List.length_drop, List.length_take]; rfl)) ?_
             with_reducible refine (strconv_Itoa.calls ((rd_T40 l0_1 x10_1).f3) t198 _ A17.out).mono ?_
             rintro e w28 ⟨rfl, hb⟩
             refine ⟨_, rfl, ?_⟩
             replace HO_3 := Aside0.mk (Kd.R_below (pr HO_3) hb)
             replace BK187 := nk BK187 hb
             replace BK194 := nk BK194 hb
             replace HB := bs hb
             (try clear hb)
             refine hK.out _ _ ⟨ec BK194, ec BK194, ec BK194, ec BK194⟩ (fun hHeld => ?_)
             clear hK K
             refine nm (some 31) ?_
             refine pu 18 (some 32) #[true, true, true, true, true, true, true, true, true, true, true, true, true, true, true, true, true, true, true, false, false, false] ?_
             refine one_ (i := 19) (N := some 33) #[true, true, true, true, true, true, true, true, true, true, true, true, true, true, true, true, true, true, true, true, false, false] rfl rfl (one_of HT_.out (by kernel_rfl)) (by decide) (fun K hK => ?_)
             refine value_ (w1 := ?_) (v := ?_) (by rfl) rfl ?_ ?_
             rotate_left 2
             ·go_simp
              constructor
              ·rfl
              ·rfl
             refine hK.out _ _ ⟨(blk_cell (blk_alloc BK194.out _) 0).trans rfl, (blk_cell (blk_alloc BK194.out _) 1).trans rfl, (blk_cell (blk_alloc BK194.out _) 2).trans rfl, (blk_cell (blk_alloc BK194.out _) 3).trans rfl⟩ (fun hHeld => ?_)
             clear hK K
             refine nm (some 33) ?_
             refine one_ (i := 20) (N := some 34) #[true, true, true, true, true, true, true, true, true, true, true, true, true, true, true, true, true, true, true, true, true, false] rfl rfl (one_of HT_.out (by kernel_rfl)) (by decide) (fun K hK => ?_)
             refine Kd.R_append_step Kd.string (w0 := w) w.heap.size (by rfl) (.tmp 14) (.tmp 33) 36 9 (.string ⟨#[]⟩) 16 rfl Tryd.underlying36 info9 rfl (by decide) (by omega) u3 x3_1 ((((((t195 ++ (⟨#[46]⟩ : ByteArray)) ++ t196) ++ (⟨#[46]⟩ : ByteArray)) ++ t197) ++ (⟨#[46]⟩ : ByteArray)) ++ t198) [.string ((((((t195 ++ (⟨#[46]⟩ : ByteArray)) ++ t196) ++ (⟨#[46]⟩ : ByteArray)) ++ t197) ++ (⟨#[46]⟩ : ByteArray)) ++ t198)] (fun _ => True) (fun _ => False) rfl rfl ?aP (fun _ hk => hk.elim) ?aF ?aO ?aB ?aS ?aL ?_
             (case aP => exact rfl)
             (case aB => exact bw)
             (case aF => exact (fun _ _ => trivial))
             (case aO => exact (pr HO_3))
             (case aS => exact (below_size bw))
             (case aL => have := LMc19.out; omega)
             intro v200 w29 ho hb hg hat
             rw [← Ny199.out] at ho
             have n0_ := Aside0.mk (blk_grown (pk BK187) hg (Kd.R_ne HO_3.out BK187.out (by decide)))
             have n1_ := Aside0.mk (blk_grown (pk BK194) hg (Kd.R_ne HO_3.out BK194.out (by decide)))
             have n2_ := Aside0.mk (hb)
             have n3_ := Aside0.mk (ho)
             clear BK187
             clear BK194
             clear HB
             clear HO_3
             have BK187 := n0_
             have BK194 := n1_
             have HB := n2_
             have HO201 := n3_
             clear n0_ n1_ n2_ n3_
             clear ho hb hg hat
             refine hK.out _ _ ⟨ec BK194, ec BK194, ec BK194, ec BK194⟩ (fun hHeld => ?_)
             clear hK K
             refine nm (some 34) ?_
             refine pu 21 (some 3) #[true, true, true, true, true, true, true, true, true, true, true, true, true, true, true, true, true, true, true, true, true, true] ?_
             refine done_ (done_of HT_.out (by kernel_rfl)) ?_
             try go_wp2
             go_roundg k1
             case measure => have := HK1.out; omega
             case rel => exact ⟨(y199), (wrap64 (x10_1 + 1)), (rs), H', ⟨by have := HK1.out; omega⟩, ⟨pr HO201⟩, ⟨pk BK187⟩, ⟨bw⟩⟩
            ·rw [if_neg c19] at H
             exact absurd H (by simp)
           ·rw [if_neg c18] at H
            exact absurd H (by simp)
          ·rw [if_neg c16] at H
           exact absurd H (by simp)
         ·rw [if_neg c15] at H
          exact absurd H (by simp)
        ·rw [if_neg c13] at H
         exact absurd H (by simp)
       ·rw [if_neg c12] at H
        exact absurd H (by simp)
      ·rw [if_neg c10] at H
       exact absurd H (by simp)
     ·rw [if_neg c8] at H
      exact absurd H (by simp)
    ·rw [if_neg c7] at H
     exact absurd H (by simp)
   ·rw [if_neg c6] at H
    have c6b0 : decide (x10_1 < (l0_1.length : Int)) = false := decide_eq_false c6
    clear c6
    replace H := Option.bind_eq_some_iff.mp H
    obtain ⟨t191, A300, H⟩ := H
    (try dsimp only at H)
    have A30 := Aside0.mk A300
    clear A300
    by_cases c31 : t191.size + 1 ≤ 9223372036854775807
    ·rw [if_pos c31] at H
     have c31b0 := eq_true c31
     have c31b1 : decide (t191.size + 1 ≤ 9223372036854775807) = true := decide_eq_true c31
     try have c31b2 : (9223372036854775807 < t191.size + 1) = False := eq_false (Nat.not_lt.2 c31)
     replace H := Option.bind_eq_some_iff.mp H
     obtain ⟨t192, A320, H⟩ := H
     (try dsimp only at H)
     have A32 := Aside0.mk A320
     clear A320
     by_cases c33 : (t191 ++ (⟨#[58]⟩ : ByteArray)).size + t192.size ≤ 9223372036854775807
     ·rw [if_pos c33] at H
      have c33b0 := eq_true c33
      have c33b1 : decide ((t191 ++ (⟨#[58]⟩ : ByteArray)).size + t192.size ≤ 9223372036854775807) = true := decide_eq_true c33
      try have c33b2 : (9223372036854775807 < (t191 ++ (⟨#[58]⟩ : ByteArray)).size + t192.size) = False := eq_false (Nat.not_lt.2 c33)
      try have c33b3 : (9223372036854775807 < t191.size + 1 + t192.size) = False := eq_false (by have h9_ := c33; clear H; simp only [ByteArray.size_append, ByteArray.size_extract] at h9_; simp only [eq_iff_iff, iff_true, iff_false] at *; have z9_ : (⟨#[58]⟩ : ByteArray).size = 1 := rfl; omega)
      obtain rfl := Option.some.inj H
      have hcz34_0 : wr.cell? ⟨gb187, 0, none⟩ = some (.int .i64 a0_0) := ec BK187
      have hcz34_1 : wr.cell? ⟨gb187, 1, none⟩ = some (.slice A0_1 l0_1.length c0_1) := ec BK187
      have hfz34_0 := blk_frozen BK187.out 0
      have hfz34_1 := blk_frozen BK187.out 1
      go_wp2_with (first | ((with_reducible refine gate_callee (f := 30) rfl ?_); refine gl (some 38) Tryd.func30 #[.int .i64 a0_0] ?_; (with_reducible refine (strconv_Itoa.calls a0_0 t191 _ A30.out).mono ?_); rintro e w35 ⟨rfl, hb⟩; refine ⟨_, rfl, ?_⟩; replace HO_3 := Aside0.mk (Kd.R_below (pr HO_3) hb); replace BK187 := nk BK187 hb; replace HB := bs hb; (try clear hb); obtain ⟨Ao36, co36, eo36⟩ := Kd.R_slice HO_3.out; subst eo36) | ((with_reducible refine gate_callee (f := 31) rfl ?_); refine gl (some 41) Tryd.func31 #[.slice Ao36 x3_1.length co36, .string (⟨#[44]⟩ : ByteArray)] ?_; (with_reducible refine (strings_Join.calls _ _ x3_1 (⟨#[44]⟩ : ByteArray) t192 _ ?side1 ?side2 ?side3 A32.out).mono ?_); (case side1 => repeat (first | exact (Kd.R_reads' HO_3.out).2.2 | (with_reducible refine Kd.C_alloc ?_ _) | (with_reducible refine Kd.C_drewN ?_ _) | (with_reducible refine Kd.C_drew ?_))); (case side2 => exact (Kd.R_reads' HO_3.out).2.1); (case side3 => exact strings_Join_plain HO_3.out); rintro e w37 ⟨rfl, hb⟩; refine ⟨_, rfl, ?_⟩; replace HO_3 := Aside0.mk (Kd.R_below (pr HO_3) hb); replace BK187 := nk BK187 hb; replace HB := bs hb; (try clear hb)))
      go_ret
      exact ⟨rs, bw⟩
     ·rw [if_neg c33] at H
      exact absurd H (by simp)
    ·rw [if_neg c31] at H
     exact absurd H (by simp)

end Go.Proofs.YthblgfiijakjlaaDoor.PFnExactParsePuzzle
