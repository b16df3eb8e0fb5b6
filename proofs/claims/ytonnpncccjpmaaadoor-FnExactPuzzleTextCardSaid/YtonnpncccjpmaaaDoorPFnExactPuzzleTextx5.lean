-- Laid by xprint, a program of this session that runs over the kit's print.
import Derived.Test.YtonnpncccjpmaaaDoorPFnExactPuzzleTextx0
import Derived.Test.YtonnpncccjpmaaaDoorPFnExactPuzzleTextx4
namespace Go.Proofs.YtonnpncccjpmaaaDoor.PFnExactPuzzleText
open Go.RowKit Go.Proofs.YtonnpncccjpmaaaDoorW.PrintWords Go.Proofs.YtonnpncccjpmaaaDoorW.PrintLast Go.Proofs.YtonnpncccjpmaaaDoorW.PrintMore Go.Proofs.YtonnpncccjpmaaaDoor.Sq
attribute [local go_sem] max2_int min2_int max_two min_two max_three min_three max_four min_four   -- for this text's walks alone
set_option linter.unusedVariables false
set_option linter.unusedSimpArgs false

/-! ### impl_puzzleText: function 22 -/
def impl_puzzleText.l0 : Nat → List ByteArray → List (S51) → Int → Int → Int → List (S51) → Option (ByteArray)
  | 0, _, _, _, _, _, _ => none
  | k + 1, x3, x8, x9, x10, x166000, x166001 => if x10 < x9 then (if 0 ≤ x10 then (if x10 < (x8.length : Int) then ((strconv_Itoa.f ((rd_T51 x8 x10).f0)).bind fun t173 => (if t173.size + 1 ≤ 9223372036854775807 then ((strconv_Itoa.f ((rd_T51 x8 x10).f1)).bind fun t174 => (if (t173 ++ (⟨#[46]⟩ : ByteArray)).size + t174.size ≤ 9223372036854775807 then (if ((t173 ++ (⟨#[46]⟩ : ByteArray)) ++ t174).size + 1 ≤ 9223372036854775807 then ((strconv_Itoa.f ((rd_T51 x8 x10).f2)).bind fun t175 => (if (((t173 ++ (⟨#[46]⟩ : ByteArray)) ++ t174) ++ (⟨#[46]⟩ : ByteArray)).size + t175.size ≤ 9223372036854775807 then (if ((((t173 ++ (⟨#[46]⟩ : ByteArray)) ++ t174) ++ (⟨#[46]⟩ : ByteArray)) ++ t175).size + 1 ≤ 9223372036854775807 then ((strconv_Itoa.f ((rd_T51 x8 x10).f3)).bind fun t176 => (if (((((t173 ++ (⟨#[46]⟩ : ByteArray)) ++ t174) ++ (⟨#[46]⟩ : ByteArray)) ++ t175) ++ (⟨#[46]⟩ : ByteArray)).size + t176.size ≤ 9223372036854775807 then (if x3.length < 8796093022208 then (impl_puzzleText.l0 k (x3 ++ [(((((t173 ++ (⟨#[46]⟩ : ByteArray)) ++ t174) ++ (⟨#[46]⟩ : ByteArray)) ++ t175) ++ (⟨#[46]⟩ : ByteArray)) ++ t176]) x8 x9 (wrap64 (x10 + 1)) x166000 x166001) else (none)) else (none))) else (none)) else (none))) else (none)) else (none))) else (none))) else (none)) else (none)) else ((strconv_Itoa.f x166000).bind fun t169 => (if t169.size + 1 ≤ 9223372036854775807 then ((strings_Join.f x3 (⟨#[44]⟩ : ByteArray)).bind fun t170 => (if (t169 ++ (⟨#[58]⟩ : ByteArray)).size + t170.size ≤ 9223372036854775807 then (some ((t169 ++ (⟨#[58]⟩ : ByteArray)) ++ t170)) else (none))) else (none)))
def impl_puzzleText.f (k : Nat) (a0_0 : Int) (l0_1 : List (S51)) : Option (ByteArray) := impl_puzzleText.l0 k (([] : List ByteArray)) l0_1 (l0_1.length : Int) 0 a0_0 l0_1
theorem impl_puzzleText.mono_l : ∀ k, (∀ y0 y1 y2 y3 y4 y5, LeO (impl_puzzleText.l0 k y0 y1 y2 y3 y4 y5) (impl_puzzleText.l0 (k + 1) y0 y1 y2 y3 y4 y5))
  | 0 => fun _ _ _ _ _ _ r h => by simp [impl_puzzleText.l0] at h
  | k + 1 => by
    have ih0 := impl_puzzleText.mono_l k
    · intro y0 y1 y2 y3 y4 y5
      unfold impl_puzzleText.l0
      repeat' first
      | (with_reducible exact ih0 _ _ _ _ _ _)
      | (with_reducible exact LeO.refl _)
      | (with_reducible exact LeO.none _)
      | (with_reducible refine LeO.ite ?_ ?_)
      | (with_reducible refine LeO.bind ?_ (fun _ => ?_))
      | exact ih0 _ _ _ _ _ _
      | exact LeO.none _
      | refine LeO.ite ?_ ?_
      | refine LeO.bind ?_ (fun _ => ?_)
theorem impl_puzzleText.mono : ∀ a0 a1 k, LeO (impl_puzzleText.f k a0 a1) (impl_puzzleText.f (k + 1) a0 a1) := by
  intro a0 a1 k
  have ih0 := impl_puzzleText.mono_l k
  unfold impl_puzzleText.f
  repeat' first
      | (with_reducible exact ih0 _ _ _ _ _ _)
      | (with_reducible exact LeO.refl _)
      | (with_reducible exact LeO.none _)
      | (with_reducible refine LeO.ite ?_ ?_)
      | (with_reducible refine LeO.bind ?_ (fun _ => ?_))
      | exact ih0 _ _ _ _ _ _
      | exact LeO.none _
      | refine LeO.ite ?_ ?_
      | refine LeO.bind ?_ (fun _ => ?_)
def impl_puzzleText.T5 : Bool × List (List Nat × List Nat) := (true, [([], []), ([], []), ([1], [1]), ([2], [2]), ([3], [3]), ([], []), ([5], [5]), ([6, 3], [6]), ([4, 7], [4, 7]), ([8], [8]), ([], []), ([10], [10]), ([11, 7], [11]), ([9, 12], [9, 12]), ([13], [13]), ([], []), ([15], [15]), ([16, 12], [16]), ([14, 17], [14, 17]), ([18], [18]), ([0, 19, 17], [0, 19]), ([20, 20, 0, 1, 2, 3, 4, 5, 6, 7, 8, 9, 10, 11, 12, 13, 14, 15, 16, 17, 18, 19, 20], [0, 20])])
def impl_puzzleText.B5 : List Nat := [0, 0, 2, 6, 14, 0, 32, 110, 254, 510, 0, 1024, 3310, 8190, 16382, 0, 32768, 105710, 262142, 524286, 1048575, 2097151]
theorem impl_puzzleText.tab5 : rtab .any (opsOf Tryd.f22 5) = impl_puzzleText.T5 := by kernel_rfl
theorem impl_puzzleText.bits5 : waitsOk impl_puzzleText.T5.2 impl_puzzleText.B5 = true := by kernel_rfl
set_option maxHeartbeats 8000000 in
set_option maxRecDepth 100000 in
theorem impl_puzzleText.calls (k : Nat) (a0_0 : Int) (A0_1 : Option Addr) (c0_1 : Nat) (l0_1 : List (S51)) (r : ByteArray) (w : World) (hr0_1 : Kd.C k51 w A0_1 l0_1.length l0_1) (hc0_1 : l0_1.length ≤ c0_1) (h : impl_puzzleText.f k a0_0 l0_1 = some r) :
  Calls Tryd.prog 22 #[.agg #[.int .i64 a0_0, .slice A0_1 l0_1.length c0_1]] w fun e w' => e = .returned (.string r) ∧ Below w.heap.size w w' := by
 have hu36 := Tryd.underlying36
 have hu51 := Tryd.underlying51
 have HR0_1 := Aside0.mk hr0_1
 have HC0_1 := Aside0.mk hc0_1
 clear hr0_1 hc0_1
 have HB := Aside0.mk (Below.refl w.heap.size w)
 unfold impl_puzzleText.f at h
 have H := h
 clear h
 obtain ⟨y166, hy166⟩ : ∃ y_ : List ByteArray, y_ = (([] : List ByteArray)) := ⟨_, rfl⟩
 replace H : (impl_puzzleText.l0 k y166 l0_1 (l0_1.length : Int) 0 a0_0 l0_1) = some r := by first | (rw [hy166]; with_reducible exact H) | (have H2_ := (Option.bind_some _ _).symm.trans H; rw [hy166]; with_reducible exact H2_) | (have H2_ := (Option.bind_some _ _).symm.trans H; with_reducible exact H2_) | with_reducible exact H | (rw [hy166]; exact H) | exact H
 have Ny166 := Aside0.mk hy166
 clear hy166
 have H' := Aside0.mk H
 clear H
 go_enter Tryd.func22, Tryd.ntmps22
 go_wp2_with (first | ((with_reducible refine gate_dst (N := 1) rfl ?_); refine bx 1 36 #[.int .i64 a0_0, .slice A0_1 l0_1.length c0_1] ?_; intro gb165 hg w2 hbox hb; have BK165 := hbox; have GW165 := gs hg; have GE165 := gs hg; replace HB := bs hb; clear hb hbox hg) | ((with_reducible refine gate_dst (N := 6) rfl ?_); refine Kd.R_lit Kd.string _ 9 ?hg (N := 6) ?hd (xs := ([] : List ByteArray)) (inner := []) (ok := fun _ => True) (okp := fun _ => True) ?hr ?hp (fun _ hk => hk) trivial (Below.refl _ _) (Nat.le_refl _) (by simp) ?_; (case hd => rfl); (case hg => rfl); (case hr => first | (go_simp; done) | (go_simp; rfl)); (case hp => exact (Reps.none _ _)); intro v167 w3 ho4 hb hg_ hnew_; clear hg_ hnew_; (first | rw [← Ny166.out] at ho4 | (simp only [Int.reduceToNat] at ho4; rw [← Ny166.out] at ho4)); have HO168 := Aside0.mk (Kd.R_lower ho4 (below_size bw)); replace BK165 := nk BK165 hb; replace HB := bs hb; clear hb ho4; have hcz5_0 := bc BK165 0 (.int .i64 a0_0); have hcz5_1 := bc BK165 1 (.slice A0_1 l0_1.length c0_1); have hfz5_0 := blk_frozen BK165.out 0; have hfz5_1 := blk_frozen BK165.out 1))
 go_loopg [3, 10] k (fun kq v3 v10 w' => ∃ (x3_1 : List ByteArray) (x10_1 : Int), v10 = .int .i64 x10_1 ∧ Aside0 (impl_puzzleText.l0 kq x3_1 l0_1 (l0_1.length : Int) x10_1 a0_0 l0_1 = some r) ∧ Aside0 (kq ≤ k) ∧ Aside0 (Kd.R Kd.string 9 w' w.heap.size (fun _ => True) v3 x3_1) ∧ Aside0 (w'.heap[gb165]? = some (.cells #[.int .i64 a0_0, (.slice A0_1 l0_1.length c0_1)] 36 (0, 0))) ∧ Aside0 (Below w.heap.size w w'))
 case atStart => exact ⟨(y166), (0), (rs), H', ⟨Nat.le_refl _⟩, ⟨pr HO168⟩, ⟨pk BK165⟩, ⟨bw⟩⟩
 case round =>
  clear H'
  try clear c2
  try clear p2
  try clear hcz5_0
  try clear hcz5_1
  try clear hfz5_0
  try clear hfz5_1
  obtain ⟨x3_1, x10_1, rfl, HA, HK1, HO_3, BK165, HB⟩ := hrel
  cases gk with
  | zero => exact absurd HA.out (by simp [impl_puzzleText.l0])
  | succ k1 =>
   have H := HA.out
   clear HA
   simp only [impl_puzzleText.l0] at H
   by_cases c6 : x10_1 < (l0_1.length : Int)
   ·rw [if_pos c6] at H
    have c6b0 : decide (x10_1 < (l0_1.length : Int)) = true := decide_eq_true c6
    clear c6
    by_cases c7 : 0 ≤ x10_1
    ·rw [if_pos c7] at H
     have c7b0 : decide (0 ≤ x10_1) = true := decide_eq_true c7
     clear c7
     by_cases c8 : x10_1 < (l0_1.length : Int)
     ·rw [if_pos c8] at H
      have c8b0 : decide (x10_1 < (l0_1.length : Int)) = true := decide_eq_true c8
      clear c8
      replace H := Option.bind_eq_some_iff.mp H
      obtain ⟨t173, A90, H⟩ := H
      (try dsimp only at H)
      have A9 := Aside0.mk A90
      clear A90
      by_cases c10 : t173.size + 1 ≤ 9223372036854775807
      ·rw [if_pos c10] at H
       have c10b0 := eq_true c10
       have c10b1 : decide (t173.size + 1 ≤ 9223372036854775807) = true := decide_eq_true c10
       try have c10b2 : (9223372036854775807 < t173.size + 1) = False := eq_false (Nat.not_lt.2 c10)
       replace H := Option.bind_eq_some_iff.mp H
       obtain ⟨t174, A110, H⟩ := H
       (try dsimp only at H)
       have A11 := Aside0.mk A110
       clear A110
       by_cases c12 : (t173 ++ (⟨#[46]⟩ : ByteArray)).size + t174.size ≤ 9223372036854775807
       ·rw [if_pos c12] at H
        have c12b0 := eq_true c12
        have c12b1 : decide ((t173 ++ (⟨#[46]⟩ : ByteArray)).size + t174.size ≤ 9223372036854775807) = true := decide_eq_true c12
        try have c12b2 : (9223372036854775807 < (t173 ++ (⟨#[46]⟩ : ByteArray)).size + t174.size) = False := eq_false (Nat.not_lt.2 c12)
        try have c12b3 : (9223372036854775807 < t173.size + 1 + t174.size) = False := eq_false (by have h9_ := c12; clear H; simp only [ByteArray.size_append, ByteArray.size_extract] at h9_; simp only [eq_iff_iff, iff_true, iff_false] at *; have z9_ : (⟨#[46]⟩ : ByteArray).size = 1 := rfl; omega)
        by_cases c13 : ((t173 ++ (⟨#[46]⟩ : ByteArray)) ++ t174).size + 1 ≤ 9223372036854775807
        ·rw [if_pos c13] at H
         have c13b0 := eq_true c13
         have c13b1 : decide (((t173 ++ (⟨#[46]⟩ : ByteArray)) ++ t174).size + 1 ≤ 9223372036854775807) = true := decide_eq_true c13
         try have c13b2 : (9223372036854775807 < ((t173 ++ (⟨#[46]⟩ : ByteArray)) ++ t174).size + 1) = False := eq_false (Nat.not_lt.2 c13)
         try have c13b3 : (9223372036854775807 < t173.size + 1 + t174.size + 1) = False := eq_false (by have h9_ := c13; clear H; simp only [ByteArray.size_append, ByteArray.size_extract] at h9_; simp only [eq_iff_iff, iff_true, iff_false] at *; have z9_ : (⟨#[46]⟩ : ByteArray).size = 1 := rfl; omega)
         replace H := Option.bind_eq_some_iff.mp H
         obtain ⟨t175, A140, H⟩ := H
         (try dsimp only at H)
         have A14 := Aside0.mk A140
         clear A140
         by_cases c15 : (((t173 ++ (⟨#[46]⟩ : ByteArray)) ++ t174) ++ (⟨#[46]⟩ : ByteArray)).size + t175.size ≤ 9223372036854775807
         ·rw [if_pos c15] at H
          have c15b0 := eq_true c15
          have c15b1 : decide ((((t173 ++ (⟨#[46]⟩ : ByteArray)) ++ t174) ++ (⟨#[46]⟩ : ByteArray)).size + t175.size ≤ 9223372036854775807) = true := decide_eq_true c15
          try have c15b2 : (9223372036854775807 < (((t173 ++ (⟨#[46]⟩ : ByteArray)) ++ t174) ++ (⟨#[46]⟩ : ByteArray)).size + t175.size) = False := eq_false (Nat.not_lt.2 c15)
          try have c15b3 : (9223372036854775807 < t173.size + 1 + t174.size + 1 + t175.size) = False := eq_false (by have h9_ := c15; clear H; simp only [ByteArray.size_append, ByteArray.size_extract] at h9_; simp only [eq_iff_iff, iff_true, iff_false] at *; have z9_ : (⟨#[46]⟩ : ByteArray).size = 1 := rfl; omega)
          by_cases c16 : ((((t173 ++ (⟨#[46]⟩ : ByteArray)) ++ t174) ++ (⟨#[46]⟩ : ByteArray)) ++ t175).size + 1 ≤ 9223372036854775807
          ·rw [if_pos c16] at H
           have c16b0 := eq_true c16
           have c16b1 : decide (((((t173 ++ (⟨#[46]⟩ : ByteArray)) ++ t174) ++ (⟨#[46]⟩ : ByteArray)) ++ t175).size + 1 ≤ 9223372036854775807) = true := decide_eq_true c16
           try have c16b2 : (9223372036854775807 < ((((t173 ++ (⟨#[46]⟩ : ByteArray)) ++ t174) ++ (⟨#[46]⟩ : ByteArray)) ++ t175).size + 1) = False := eq_false (Nat.not_lt.2 c16)
           try have c16b3 : (9223372036854775807 < t173.size + 1 + t174.size + 1 + t175.size + 1) = False := eq_false (by have h9_ := c16; clear H; simp only [ByteArray.size_append, ByteArray.size_extract] at h9_; simp only [eq_iff_iff, iff_true, iff_false] at *; have z9_ : (⟨#[46]⟩ : ByteArray).size = 1 := rfl; omega)
           replace H := Option.bind_eq_some_iff.mp H
           obtain ⟨t176, A170, H⟩ := H
           (try dsimp only at H)
           have A17 := Aside0.mk A170
           clear A170
           by_cases c18 : (((((t173 ++ (⟨#[46]⟩ : ByteArray)) ++ t174) ++ (⟨#[46]⟩ : ByteArray)) ++ t175) ++ (⟨#[46]⟩ : ByteArray)).size + t176.size ≤ 9223372036854775807
           ·rw [if_pos c18] at H
            have c18b0 := eq_true c18
            have c18b1 : decide ((((((t173 ++ (⟨#[46]⟩ : ByteArray)) ++ t174) ++ (⟨#[46]⟩ : ByteArray)) ++ t175) ++ (⟨#[46]⟩ : ByteArray)).size + t176.size ≤ 9223372036854775807) = true := decide_eq_true c18
            try have c18b2 : (9223372036854775807 < (((((t173 ++ (⟨#[46]⟩ : ByteArray)) ++ t174) ++ (⟨#[46]⟩ : ByteArray)) ++ t175) ++ (⟨#[46]⟩ : ByteArray)).size + t176.size) = False := eq_false (Nat.not_lt.2 c18)
            try have c18b3 : (9223372036854775807 < t173.size + 1 + t174.size + 1 + t175.size + 1 + t176.size) = False := eq_false (by have h9_ := c18; clear H; simp only [ByteArray.size_append, ByteArray.size_extract] at h9_; simp only [eq_iff_iff, iff_true, iff_false] at *; have z9_ : (⟨#[46]⟩ : ByteArray).size = 1 := rfl; omega)
            by_cases c19 : x3_1.length < 8796093022208
            ·rw [if_pos c19] at H
             have LMc19 := Aside0.mk c19
             clear c19
             obtain ⟨y177, hy177⟩ : ∃ y_ : List ByteArray, y_ = (x3_1 ++ [(((((t173 ++ (⟨#[46]⟩ : ByteArray)) ++ t174) ++ (⟨#[46]⟩ : ByteArray)) ++ t175) ++ (⟨#[46]⟩ : ByteArray)) ++ t176]) := ⟨_, rfl⟩
             replace H : (impl_puzzleText.l0 k1 y177 l0_1 (l0_1.length : Int) (wrap64 (x10_1 + 1)) a0_0 l0_1) = some r := by first | (rw [hy177]; with_reducible exact H) | (have H2_ := (Option.bind_some _ _).symm.trans H; rw [hy177]; with_reducible exact H2_) | (have H2_ := (Option.bind_some _ _).symm.trans H; with_reducible exact H2_) | with_reducible exact H | (rw [hy177]; exact H) | exact H
             have Ny177 := Aside0.mk hy177
             clear hy177
             have H' := Aside0.mk H
             clear H
             have p171 : 0 ≤ (x10_1 : Int) := of_decide_eq_true (by first | (with_reducible assumption) | assumption)
             have q171 : x10_1 < (l0_1.length : Int) := of_decide_eq_true (by first | (with_reducible assumption) | assumption)
             obtain ⟨ad171, e171, hx171_0, hx171_1, hx171_2, hx171_3⟩ := at_T51 HR0_1.out x10_1 p171 q171
             cases e171
             replace hx171_0 := (HB.out.cell (World.block_lt_of_cell? w _ hx171_0)).trans hx171_0
             replace hx171_1 := (HB.out.cell (World.block_lt_of_cell? w _ hx171_1)).trans hx171_1
             replace hx171_2 := (HB.out.cell (World.block_lt_of_cell? w _ hx171_2)).trans hx171_2
             replace hx171_3 := (HB.out.cell (World.block_lt_of_cell? w _ hx171_3)).trans hx171_3
             replace p171 := eq_true p171
             replace q171 := eq_true q171
             try go_wp2_with (first | ((with_reducible refine gate_dst (N := 5) rfl ?_); refine bx 5 51 #[.int .i64 0, .int .i64 0, .int .i64 0, .int .i64 0] ?_; intro gb172 hg w20 hbox hb; replace HO_3 := Aside0.mk (Kd.R_below (pr HO_3) hb); have BK172 := hbox; have GW172 := gs hg; have GE172 := gs hg; replace HB := bs hb; have NB165_172 := nl BK165 hg; have NB172_165 := ng BK165 hg; replace BK165 := nk BK165 hb; clear hb hbox hg; have hnb21 := NB172_165.out; have hnc21 := NB165_172.out; have hcz22_0 := bc BK172 0 (.int .i64 0); have hcz22_1 := bc BK172 1 (.int .i64 0); have hcz22_2 := bc BK172 2 (.int .i64 0); have hcz22_3 := bc BK172 3 (.int .i64 0); have hfz22_0 := blk_frozen BK172.out 0; have hfz22_1 := blk_frozen BK172.out 1; have hfz22_2 := blk_frozen BK172.out 2; have hfz22_3 := blk_frozen BK172.out 3))
             have n0_ : Aside0 (Kd.R Kd.string 9 ((((w20.setCell ⟨gb172, 0, none⟩ (.int .i64 ((rd_T51 l0_1 x10_1).f0))).setCell ⟨gb172, 1, none⟩ (.int .i64 ((rd_T51 l0_1 x10_1).f1))).setCell ⟨gb172, 2, none⟩ (.int .i64 ((rd_T51 l0_1 x10_1).f2))).setCell ⟨gb172, 3, none⟩ (.int .i64 ((rd_T51 l0_1 x10_1).f3))) w.heap.size (fun _ => True) u3 x3_1) := ⟨by (with_reducible repeat (first | apply Kd.R_alloc | apply Kd.R_drewN | apply Kd.R_drew)); exact Kd.R_mono (Kd.R_far (p := ⟨gb172, 3, none⟩) (Kd.R_far (p := ⟨gb172, 2, none⟩) (Kd.R_far (p := ⟨gb172, 1, none⟩) (Kd.R_far (p := ⟨gb172, 0, none⟩) (Kd.R_types HO_3.out BK172.out (by decide)) (fun _ hk => hk.2) (.int .i64 ((rd_T51 l0_1 x10_1).f0))) (fun _ hk => hk.2) (.int .i64 ((rd_T51 l0_1 x10_1).f1))) (fun _ hk => hk.2) (.int .i64 ((rd_T51 l0_1 x10_1).f2))) (fun _ hk => hk.2) (.int .i64 ((rd_T51 l0_1 x10_1).f3))) (fun _ hk => trivial)⟩
             have n1_ : Aside0 (((((w20.setCell ⟨gb172, 0, none⟩ (.int .i64 ((rd_T51 l0_1 x10_1).f0))).setCell ⟨gb172, 1, none⟩ (.int .i64 ((rd_T51 l0_1 x10_1).f1))).setCell ⟨gb172, 2, none⟩ (.int .i64 ((rd_T51 l0_1 x10_1).f2))).setCell ⟨gb172, 3, none⟩ (.int .i64 ((rd_T51 l0_1 x10_1).f3))).heap[gb165]? = some (.cells #[.int .i64 a0_0, .slice (some ad171) l0_1.length c0_1] 36 (0, 0))) := ⟨by (with_reducible repeat (first | refine blk_drewN ?_ _ | refine blk_drew ?_ | refine blk_alloc ?_ _)); refine blk_far ?_ NB165_172.out _; (with_reducible repeat (first | refine blk_drewN ?_ _ | refine blk_drew ?_ | refine blk_alloc ?_ _)); refine blk_far ?_ NB165_172.out _; (with_reducible repeat (first | refine blk_drewN ?_ _ | refine blk_drew ?_ | refine blk_alloc ?_ _)); refine blk_far ?_ NB165_172.out _; (with_reducible repeat (first | refine blk_drewN ?_ _ | refine blk_drew ?_ | refine blk_alloc ?_ _)); refine blk_far ?_ NB165_172.out _; (with_reducible repeat (first | refine blk_drewN ?_ _ | refine blk_drew ?_ | refine blk_alloc ?_ _)); exact BK165.out⟩
             have n2_ : Aside0 (((((w20.setCell ⟨gb172, 0, none⟩ (.int .i64 ((rd_T51 l0_1 x10_1).f0))).setCell ⟨gb172, 1, none⟩ (.int .i64 ((rd_T51 l0_1 x10_1).f1))).setCell ⟨gb172, 2, none⟩ (.int .i64 ((rd_T51 l0_1 x10_1).f2))).setCell ⟨gb172, 3, none⟩ (.int .i64 ((rd_T51 l0_1 x10_1).f3))).heap[gb172]? = some (.cells #[.int .i64 ((rd_T51 l0_1 x10_1).f0), .int .i64 ((rd_T51 l0_1 x10_1).f1), .int .i64 ((rd_T51 l0_1 x10_1).f2), .int .i64 ((rd_T51 l0_1 x10_1).f3)] 51 (0, 0))) := ⟨by (with_reducible repeat (first | refine blk_drewN ?_ _ | refine blk_drew ?_ | refine blk_alloc ?_ _)); refine blk_put (cs := #[.int .i64 ((rd_T51 l0_1 x10_1).f0), .int .i64 ((rd_T51 l0_1 x10_1).f1), .int .i64 ((rd_T51 l0_1 x10_1).f2), .int .i64 0]) ?_ 3 _ rfl; (with_reducible repeat (first | refine blk_drewN ?_ _ | refine blk_drew ?_ | refine blk_alloc ?_ _)); refine blk_put (cs := #[.int .i64 ((rd_T51 l0_1 x10_1).f0), .int .i64 ((rd_T51 l0_1 x10_1).f1), .int .i64 0, .int .i64 0]) ?_ 2 _ rfl; (with_reducible repeat (first | refine blk_drewN ?_ _ | refine blk_drew ?_ | refine blk_alloc ?_ _)); refine blk_put (cs := #[.int .i64 ((rd_T51 l0_1 x10_1).f0), .int .i64 0, .int .i64 0, .int .i64 0]) ?_ 1 _ rfl; (with_reducible repeat (first | refine blk_drewN ?_ _ | refine blk_drew ?_ | refine blk_alloc ?_ _)); refine blk_put (cs := #[.int .i64 0, .int .i64 0, .int .i64 0, .int .i64 0]) ?_ 0 _ rfl; (with_reducible repeat (first | refine blk_drewN ?_ _ | refine blk_drew ?_ | refine blk_alloc ?_ _)); exact BK172.out⟩
             have n3_ : Aside0 (Below w.heap.size w ((((w20.setCell ⟨gb172, 0, none⟩ (.int .i64 ((rd_T51 l0_1 x10_1).f0))).setCell ⟨gb172, 1, none⟩ (.int .i64 ((rd_T51 l0_1 x10_1).f1))).setCell ⟨gb172, 2, none⟩ (.int .i64 ((rd_T51 l0_1 x10_1).f2))).setCell ⟨gb172, 3, none⟩ (.int .i64 ((rd_T51 l0_1 x10_1).f3)))) := ⟨bw⟩
             (try clear HO_3)
             (try clear BK165)
             (try clear BK172)
             (try clear HB)
             generalize ((((w20.setCell ⟨gb172, 0, none⟩ (.int .i64 ((rd_T51 l0_1 x10_1).f0))).setCell ⟨gb172, 1, none⟩ (.int .i64 ((rd_T51 l0_1 x10_1).f1))).setCell ⟨gb172, 2, none⟩ (.int .i64 ((rd_T51 l0_1 x10_1).f2))).setCell ⟨gb172, 3, none⟩ (.int .i64 ((rd_T51 l0_1 x10_1).f3))) = w23 at n0_ n1_ n2_ n3_ ⊢
             have HO_3 := n0_
             have BK165 := n1_
             have BK172 := n2_
             have HB := n3_
             clear n0_ n1_ n2_ n3_
             replace HO_3 := Aside0.mk (Kd.R_drew HO_3.out)
             replace BK165 := Aside0.mk (blk_drew BK165.out)
             replace BK172 := Aside0.mk (blk_drew BK172.out)
             replace HB := Aside0.mk (below_drew1 HB.out)
             refine start_ (n := 22) (S := fun w' => w'.cell? ⟨gb172, 0, none⟩ = some (.int .i64 ((rd_T51 l0_1 x10_1).f0)) ∧ w'.cell? ⟨gb172, 1, none⟩ = some (.int .i64 ((rd_T51 l0_1 x10_1).f1)) ∧ w'.cell? ⟨gb172, 2, none⟩ = some (.int .i64 ((rd_T51 l0_1 x10_1).f2)) ∧ w'.cell? ⟨gb172, 3, none⟩ = some (.int .i64 ((rd_T51 l0_1 x10_1).f3))) (ds := []) #[false, false, false, false, false, false, false, false, false, false, false, false, false, false, false, false, false, false, false, false, false, false] (by kernel_rfl) rfl rfl ⟨ec BK172, ec BK172, ec BK172, ec BK172⟩ (fun hHeld => ?_); refine with_tabW impl_puzzleText.tab5 impl_puzzleText.bits5 (fun HT_ HW_ => ?_)
             generalize w23.drew = w24 at HO_3 BK165 BK172 HB hHeld ⊢
             refine pu 0 (some 14) #[true, false, false, false, false, false, false, false, false, false, false, false, false, false, false, false, false, false, false, false, false, false] ?_
             refine pu 1 (some 15) #[true, true, false, false, false, false, false, false, false, false, false, false, false, false, false, false, false, false, false, false, false, false] ?_
             refine pu 5 (some 19) #[true, true, false, false, false, true, false, false, false, false, false, false, false, false, false, false, false, false, false, false, false, false] ?_
             refine pu 10 (some 24) #[true, true, false, false, false, true, false, false, false, false, true, false, false, false, false, false, false, false, false, false, false, false] ?_
             refine pu 15 (some 29) #[true, true, false, false, false, true, false, false, false, false, true, false, false, false, false, true, false, false, false, false, false, false] ?_
             refine take_ (i := 2) (N := some 16) (v := ?_) (a' := ?_) #[true, true, true, false, false, true, false, false, false, false, true, false, false, false, false, true, false, false, false, false, false, false] rfl rfl (take_ofW HT_.out HW_.out (by kernel_rfl)) (fun _ _ _ h => h) (Or.inl ⟨by rfl, ?_⟩) hHeld ?_ ?_
             rotate_left
             ·rintro w' ⟨s0, s1, s2, s3⟩
              go_simp
              with_reducible rfl
             rotate_left
             ·simp only [Act.put, List.setIfInBounds_toArray, List.set_cons_zero, List.set_cons_succ, i64_w, i32_w]
              rfl
             refine take_ (i := 6) (N := some 20) (v := ?_) (a' := ?_) #[true, true, true, false, false, true, true, false, false, false, true, false, false, false, false, true, false, false, false, false, false, false] rfl rfl (take_ofW HT_.out HW_.out (by kernel_rfl)) (fun _ _ _ h => h) (Or.inl ⟨by rfl, ?_⟩) hHeld ?_ ?_
             rotate_left
             ·rintro w' ⟨s0, s1, s2, s3⟩
              go_simp
              with_reducible rfl
             rotate_left
             ·simp only [Act.put, List.setIfInBounds_toArray, List.set_cons_zero, List.set_cons_succ, i64_w, i32_w]
              rfl
             refine take_ (i := 11) (N := some 25) (v := ?_) (a' := ?_) #[true, true, true, false, false, true, true, false, false, false, true, true, false, false, false, true, false, false, false, false, false, false] rfl rfl (take_ofW HT_.out HW_.out (by kernel_rfl)) (fun _ _ _ h => h) (Or.inl ⟨by rfl, ?_⟩) hHeld ?_ ?_
             rotate_left
             ·rintro w' ⟨s0, s1, s2, s3⟩
              go_simp
              with_reducible rfl
             rotate_left
             ·simp only [Act.put, List.setIfInBounds_toArray, List.set_cons_zero, List.set_cons_succ, i64_w, i32_w]
              rfl
             refine take_ (i := 16) (N := some 30) (v := ?_) (a' := ?_) #[true, true, true, false, false, true, true, false, false, false, true, true, false, false, false, true, true, false, false, false, false, false] rfl rfl (take_ofW HT_.out HW_.out (by kernel_rfl)) (fun _ _ _ h => h) (Or.inl ⟨by rfl, ?_⟩) hHeld ?_ ?_
             rotate_left
             ·rintro w' ⟨s0, s1, s2, s3⟩
              go_simp
              with_reducible rfl
             rotate_left
             ·simp only [Act.put, List.setIfInBounds_toArray, List.set_cons_zero, List.set_cons_succ, i64_w, i32_w]
              rfl
             refine one_ (i := 3) (N := some 17) #[true, true, true, true, false, true, true, false, false, false, true, true, false, false, false, true, true, false, false, false, false, false] rfl rfl (one_of HT_.out (by kernel_rfl)) (by decide) (fun K hK => ?_)
             refine goes_ Tryd.func29 (by kernel_rfl) rfl #[.int .i64 ((rd_T51 l0_1 x10_1).f0)] (by rfl) rfl rfl (by (try simp only [List.map_toArray, List.map_cons, List.map_nil]); first | done | rfl | (simp only [List.length_drop, List.length_take]; rfl)) ?_
             with_reducible refine (strconv_Itoa.calls ((rd_T51 l0_1 x10_1).f0) t173 _ A9.out).mono ?_
             rintro e w25 ⟨rfl, hb⟩
             refine ⟨_, rfl, ?_⟩
             replace HO_3 := Aside0.mk (Kd.R_below (pr HO_3) hb)
             replace BK165 := nk BK165 hb
             replace BK172 := nk BK172 hb
             replace HB := bs hb
             (try clear hb)
             refine hK.out _ _ ⟨ec BK172, ec BK172, ec BK172, ec BK172⟩ (fun hHeld => ?_)
             clear hK K
             refine nm (some 17) ?_
             refine pu 4 (some 18) #[true, true, true, true, true, true, true, false, false, false, true, true, false, false, false, true, true, false, false, false, false, false] ?_
             refine one_ (i := 7) (N := some 21) #[true, true, true, true, true, true, true, true, false, false, true, true, false, false, false, true, true, false, false, false, false, false] rfl rfl (one_of HT_.out (by kernel_rfl)) (by decide) (fun K hK => ?_)
             refine goes_ Tryd.func29 (by kernel_rfl) rfl #[.int .i64 ((rd_T51 l0_1 x10_1).f1)] (by rfl) rfl rfl (by (try simp only [List.map_toArray, List.map_cons, List.map_nil]); first | done | rfl | (simp only [List.length_drop, List.length_take]; rfl)) ?_
             with_reducible refine (strconv_Itoa.calls ((rd_T51 l0_1 x10_1).f1) t174 _ A11.out).mono ?_
             rintro e w26 ⟨rfl, hb⟩
             refine ⟨_, rfl, ?_⟩
             replace HO_3 := Aside0.mk (Kd.R_below (pr HO_3) hb)
             replace BK165 := nk BK165 hb
             replace BK172 := nk BK172 hb
             replace HB := bs hb
             (try clear hb)
             refine hK.out _ _ ⟨ec BK172, ec BK172, ec BK172, ec BK172⟩ (fun hHeld => ?_)
             clear hK K
             refine nm (some 21) ?_
             refine pu 8 (some 22) #[true, true, true, true, true, true, true, true, true, false, true, true, false, false, false, true, true, false, false, false, false, false] ?_
             refine pu 9 (some 23) #[true, true, true, true, true, true, true, true, true, true, true, true, false, false, false, true, true, false, false, false, false, false] ?_
             refine one_ (i := 12) (N := some 26) #[true, true, true, true, true, true, true, true, true, true, true, true, true, false, false, true, true, false, false, false, false, false] rfl rfl (one_of HT_.out (by kernel_rfl)) (by decide) (fun K hK => ?_)
             refine goes_ Tryd.func29 (by kernel_rfl) rfl #[.int .i64 ((rd_T51 l0_1 x10_1).f2)] (by rfl) rfl rfl (by (try simp only [List.map_toArray, List.map_cons, List.map_nil]); first | done | rfl | (simp only [List.length_drop, List.length_take]; rfl)) ?_
             with_reducible refine (strconv_Itoa.calls ((rd_T51 l0_1 x10_1).f2) t175 _ A14.out).mono ?_
             rintro e w27 ⟨rfl, hb⟩
             refine ⟨_, rfl, ?_⟩
             replace HO_3 := Aside0.mk (Kd.R_below (pr HO_3) hb)
             replace BK165 := nk BK165 hb
             replace BK172 := nk BK172 hb
             replace HB := bs hb
             (try clear hb)
             refine hK.out _ _ ⟨ec BK172, ec BK172, ec BK172, ec BK172⟩ (fun hHeld => ?_)
             clear hK K
             refine nm (some 26) ?_
             refine pu 13 (some 27) #[true, true, true, true, true, true, true, true, true, true, true, true, true, true, false, true, true, false, false, false, false, false] ?_
             refine pu 14 (some 28) #[true, true, true, true, true, true, true, true, true, true, true, true, true, true, true, true, true, false, false, false, false, false] ?_
             refine one_ (i := 17) (N := some 31) #[true, true, true, true, true, true, true, true, true, true, true, true, true, true, true, true, true, true, false, false, false, false] rfl rfl (one_of HT_.out (by kernel_rfl)) (by decide) (fun K hK => ?_)
             refine goes_ Tryd.func29 (by kernel_rfl) rfl #[.int .i64 ((rd_T51 l0_1 x10_1).f3)] (by rfl) rfl rfl (by (try simp only [List.map_toArray, List.map_cons, List.map_nil]); first | done | rfl | (simp only [List.length_drop, List.length_take]; rfl)) ?_
             with_reducible refine (strconv_Itoa.calls ((rd_T51 l0_1 x10_1).f3) t176 _ A17.out).mono ?_
             rintro e w28 ⟨rfl, hb⟩
             refine ⟨_, rfl, ?_⟩
             replace HO_3 := Aside0.mk (Kd.R_below (pr HO_3) hb)
             replace BK165 := nk BK165 hb
             replace BK172 := nk BK172 hb
             replace HB := bs hb
             (try clear hb)
             refine hK.out _ _ ⟨ec BK172, ec BK172, ec BK172, ec BK172⟩ (fun hHeld => ?_)
             clear hK K
             refine nm (some 31) ?_
             refine pu 18 (some 32) #[true, true, true, true, true, true, true, true, true, true, true, true, true, true, true, true, true, true, true, false, false, false] ?_
             refine one_ (i := 19) (N := some 33) #[true, true, true, true, true, true, true, true, true, true, true, true, true, true, true, true, true, true, true, true, false, false] rfl rfl (one_of HT_.out (by kernel_rfl)) (by decide) (fun K hK => ?_)
             refine value_ (w1 := ?_) (v := ?_) (by rfl) rfl ?_ ?_
             rotate_left 2
             ·go_simp
              constructor
              ·rfl
              ·rfl
             refine hK.out _ _ ⟨(blk_cell (blk_alloc BK172.out _) 0).trans rfl, (blk_cell (blk_alloc BK172.out _) 1).trans rfl, (blk_cell (blk_alloc BK172.out _) 2).trans rfl, (blk_cell (blk_alloc BK172.out _) 3).trans rfl⟩ (fun hHeld => ?_)
             clear hK K
             refine nm (some 33) ?_
             refine one_ (i := 20) (N := some 34) #[true, true, true, true, true, true, true, true, true, true, true, true, true, true, true, true, true, true, true, true, true, false] rfl rfl (one_of HT_.out (by kernel_rfl)) (by decide) (fun K hK => ?_)
             refine Kd.R_append_step Kd.string (w0 := w) w.heap.size (by rfl) (.tmp 14) (.tmp 33) 57 9 (.string ⟨#[]⟩) 16 rfl Tryd.underlying57 info9 rfl (by decide) (by omega) u3 x3_1 ((((((t173 ++ (⟨#[46]⟩ : ByteArray)) ++ t174) ++ (⟨#[46]⟩ : ByteArray)) ++ t175) ++ (⟨#[46]⟩ : ByteArray)) ++ t176) [.string ((((((t173 ++ (⟨#[46]⟩ : ByteArray)) ++ t174) ++ (⟨#[46]⟩ : ByteArray)) ++ t175) ++ (⟨#[46]⟩ : ByteArray)) ++ t176)] (fun _ => True) (fun _ => False) rfl rfl ?aP (fun _ hk => hk.elim) ?aF ?aO ?aB ?aS ?aL ?_
             (case aP => exact rfl)
             (case aB => exact bw)
             (case aF => exact (fun _ _ => trivial))
             (case aO => exact (pr HO_3))
             (case aS => exact (below_size bw))
             (case aL => have := LMc19.out; omega)
             intro v178 w29 ho hb hg hat
             rw [← Ny177.out] at ho
             have n0_ := Aside0.mk (blk_grown (pk BK165) hg (Kd.R_ne HO_3.out BK165.out (by decide)))
             have n1_ := Aside0.mk (blk_grown (pk BK172) hg (Kd.R_ne HO_3.out BK172.out (by decide)))
             have n2_ := Aside0.mk (hb)
             have n3_ := Aside0.mk (ho)
             clear BK165
             clear BK172
             clear HB
             clear HO_3
             have BK165 := n0_
             have BK172 := n1_
             have HB := n2_
             have HO179 := n3_
             clear n0_ n1_ n2_ n3_
             clear ho hb hg hat
             refine hK.out _ _ ⟨ec BK172, ec BK172, ec BK172, ec BK172⟩ (fun hHeld => ?_)
             clear hK K
             refine nm (some 34) ?_
             refine pu 21 (some 3) #[true, true, true, true, true, true, true, true, true, true, true, true, true, true, true, true, true, true, true, true, true, true] ?_
             refine done_ (done_of HT_.out (by kernel_rfl)) ?_
             try go_wp2
             go_roundg k1
             case measure => have := HK1.out; omega
             case rel => exact ⟨(y177), (wrap64 (x10_1 + 1)), (rs), H', ⟨by have := HK1.out; omega⟩, ⟨pr HO179⟩, ⟨pk BK165⟩, ⟨bw⟩⟩
            ·rw [if_neg c19] at H
             exact absurd H (by simp)
           ·rw [if_neg c18] at H
            exact absurd H (by simp)
          ·rw [if_neg c16] at H
           exact absurd H (by simp)
         ·rw [if_neg c15] at H
          exact absurd H (by simp)
        ·rw [if_neg c13] at H
         exact absurd H (by simp)
       ·rw [if_neg c12] at H
        exact absurd H (by simp)
      ·rw [if_neg c10] at H
       exact absurd H (by simp)
     ·rw [if_neg c8] at H
      exact absurd H (by simp)
    ·rw [if_neg c7] at H
     exact absurd H (by simp)
   ·rw [if_neg c6] at H
    have c6b0 : decide (x10_1 < (l0_1.length : Int)) = false := decide_eq_false c6
    clear c6
    replace H := Option.bind_eq_some_iff.mp H
    obtain ⟨t169, A300, H⟩ := H
    (try dsimp only at H)
    have A30 := Aside0.mk A300
    clear A300
    by_cases c31 : t169.size + 1 ≤ 9223372036854775807
    ·rw [if_pos c31] at H
     have c31b0 := eq_true c31
     have c31b1 : decide (t169.size + 1 ≤ 9223372036854775807) = true := decide_eq_true c31
     try have c31b2 : (9223372036854775807 < t169.size + 1) = False := eq_false (Nat.not_lt.2 c31)
     replace H := Option.bind_eq_some_iff.mp H
     obtain ⟨t170, A320, H⟩ := H
     (try dsimp only at H)
     have A32 := Aside0.mk A320
     clear A320
     by_cases c33 : (t169 ++ (⟨#[58]⟩ : ByteArray)).size + t170.size ≤ 9223372036854775807
     ·rw [if_pos c33] at H
      have c33b0 := eq_true c33
      have c33b1 : decide ((t169 ++ (⟨#[58]⟩ : ByteArray)).size + t170.size ≤ 9223372036854775807) = true := decide_eq_true c33
      try have c33b2 : (9223372036854775807 < (t169 ++ (⟨#[58]⟩ : ByteArray)).size + t170.size) = False := eq_false (Nat.not_lt.2 c33)
      try have c33b3 : (9223372036854775807 < t169.size + 1 + t170.size) = False := eq_false (by have h9_ := c33; clear H; simp only [ByteArray.size_append, ByteArray.size_extract] at h9_; simp only [eq_iff_iff, iff_true, iff_false] at *; have z9_ : (⟨#[58]⟩ : ByteArray).size = 1 := rfl; omega)
      obtain rfl := Option.some.inj H
      have hcz34_0 : wr.cell? ⟨gb165, 0, none⟩ = some (.int .i64 a0_0) := ec BK165
      have hcz34_1 : wr.cell? ⟨gb165, 1, none⟩ = some (.slice A0_1 l0_1.length c0_1) := ec BK165
      have hfz34_0 := blk_frozen BK165.out 0
      have hfz34_1 := blk_frozen BK165.out 1
      go_wp2_with (first | ((with_reducible refine gate_callee (f := 29) rfl ?_); refine gl (some 38) Tryd.func29 #[.int .i64 a0_0] ?_; (with_reducible refine (strconv_Itoa.calls a0_0 t169 _ A30.out).mono ?_); rintro e w35 ⟨rfl, hb⟩; refine ⟨_, rfl, ?_⟩; replace HO_3 := Aside0.mk (Kd.R_below (pr HO_3) hb); replace BK165 := nk BK165 hb; replace HB := bs hb; (try clear hb); obtain ⟨Ao36, co36, eo36⟩ := Kd.R_slice HO_3.out; subst eo36) | ((with_reducible refine gate_callee (f := 37) rfl ?_); refine gl (some 41) Tryd.func37 #[.slice Ao36 x3_1.length co36, .string (⟨#[44]⟩ : ByteArray)] ?_; (with_reducible refine (strings_Join.calls _ _ x3_1 (⟨#[44]⟩ : ByteArray) t170 _ ?side1 ?side2 ?side3 A32.out).mono ?_); (case side1 => repeat (first | exact (Kd.R_reads' HO_3.out).2.2 | (with_reducible refine Kd.C_alloc ?_ _) | (with_reducible refine Kd.C_drewN ?_ _) | (with_reducible refine Kd.C_drew ?_))); (case side2 => exact (Kd.R_reads' HO_3.out).2.1); (case side3 => exact strings_Join_plain HO_3.out); rintro e w37 ⟨rfl, hb⟩; refine ⟨_, rfl, ?_⟩; replace HO_3 := Aside0.mk (Kd.R_below (pr HO_3) hb); replace BK165 := nk BK165 hb; replace HB := bs hb; (try clear hb)))
      go_ret
      exact ⟨rs, bw⟩
     ·rw [if_neg c33] at H
      exact absurd H (by simp)
    ·rw [if_neg c31] at H
     exact absurd H (by simp)

/-! ### impl_PuzzleText: function 11 -/
def impl_PuzzleText.f (k : Nat) (a0_0 : Int) (l0_1 : List (S51)) : Option (ByteArray × Bool) := (impl_isPuzzle.f k a0_0 l0_1).bind fun t181 => (if t181 = true then ((impl_puzzleText.f k a0_0 l0_1).bind fun t182 => (some (t182, true))) else (some ((⟨#[]⟩ : ByteArray), false)))
theorem impl_PuzzleText.mono : ∀ a0 a1 k, LeO (impl_PuzzleText.f k a0 a1) (impl_PuzzleText.f (k + 1) a0 a1) := by
  intro a0 a1 k
  unfold impl_PuzzleText.f
  repeat' first
      | (with_reducible exact impl_isPuzzle.mono _ _ _)
      | (with_reducible exact impl_puzzleText.mono _ _ _)
      | (with_reducible exact LeO.refl _)
      | (with_reducible exact LeO.none _)
      | (with_reducible refine LeO.ite ?_ ?_)
      | (with_reducible refine LeO.bind ?_ (fun _ => ?_))
      | exact impl_isPuzzle.mono _ _ _
      | exact impl_puzzleText.mono _ _ _
      | exact LeO.none _
      | refine LeO.ite ?_ ?_
      | refine LeO.bind ?_ (fun _ => ?_)
set_option maxHeartbeats 8000000 in
set_option maxRecDepth 100000 in
theorem impl_PuzzleText.calls (k : Nat) (a0_0 : Int) (A0_1 : Option Addr) (c0_1 : Nat) (l0_1 : List (S51)) (r1 : ByteArray) (r2 : Bool) (w : World) (hr0_1 : Kd.C k51 w A0_1 l0_1.length l0_1) (hc0_1 : l0_1.length ≤ c0_1) (h : impl_PuzzleText.f k a0_0 l0_1 = some (r1, r2)) :
  Calls Tryd.prog 11 #[.agg #[.int .i64 a0_0, .slice A0_1 l0_1.length c0_1]] w fun e w' => e = .returned (.tuple #[.string r1, .bool r2]) ∧ Below w.heap.size w w' := by
 have hu36 := Tryd.underlying36
 have HR0_1 := Aside0.mk hr0_1
 have HC0_1 := Aside0.mk hc0_1
 clear hr0_1 hc0_1
 have HB := Aside0.mk (Below.refl w.heap.size w)
 unfold impl_PuzzleText.f at h
 have H := h
 clear h
 replace H := Option.bind_eq_some_iff.mp H
 obtain ⟨t181, A20, H⟩ := H
 (try dsimp only at H)
 have A2 := Aside0.mk A20
 clear A20
 by_cases c3 : t181 = true
 ·subst c3
  rw [if_pos rfl] at H
  replace H := Option.bind_eq_some_iff.mp H
  obtain ⟨t182, A40, H⟩ := H
  (try dsimp only at H)
  have A4 := Aside0.mk A40
  clear A40
  simp only [Option.some.injEq, Prod.mk.injEq] at H
  obtain ⟨rfl, rfl⟩ := H
  go_enter Tryd.func11, Tryd.ntmps11
  go_wp2_with (first | ((with_reducible refine gate_dst (N := 1) rfl ?_); refine bx 1 36 #[.int .i64 a0_0, .slice A0_1 l0_1.length c0_1] ?_; intro gb180 hg w5 hbox hb; have BK180 := hbox; have GW180 := gs hg; have GE180 := gs hg; replace HB := bs hb; clear hb hbox hg; have hcz6_0 := bc BK180 0 (.int .i64 a0_0); have hcz6_1 := bc BK180 1 (.slice A0_1 l0_1.length c0_1); have hfz6_0 := blk_frozen BK180.out 0; have hfz6_1 := blk_frozen BK180.out 1) | ((with_reducible refine gate_callee (f := 21) rfl ?_); refine gl (some 5) Tryd.func21 #[.agg #[.int .i64 a0_0, .slice A0_1 l0_1.length c0_1]] ?_; (with_reducible refine (impl_isPuzzle.calls k a0_0 _ _ l0_1 true _ ?side1 ?side2 A2.out).mono ?_); (case side1 => repeat (first | exact (Kd.C_below HR0_1.out HB.out) | (with_reducible refine Kd.C_alloc ?_ _) | (with_reducible refine Kd.C_drewN ?_ _) | (with_reducible refine Kd.C_drew ?_))); (case side2 => exact HC0_1.out); rintro e w7 ⟨rfl, hb⟩; refine ⟨_, rfl, ?_⟩; replace BK180 := nk BK180 hb; replace HB := bs hb; (try clear hb); have hcz8_0 := bc BK180 0 (.int .i64 a0_0); have hcz8_1 := bc BK180 1 (.slice A0_1 l0_1.length c0_1); have hfz8_0 := blk_frozen BK180.out 0; have hfz8_1 := blk_frozen BK180.out 1) | ((with_reducible refine gate_callee (f := 22) rfl ?_); refine gl (some 8) Tryd.func22 #[.agg #[.int .i64 a0_0, .slice A0_1 l0_1.length c0_1]] ?_; (with_reducible refine (impl_puzzleText.calls k a0_0 _ _ l0_1 t182 _ ?side1 ?side2 A4.out).mono ?_); (case side1 => repeat (first | exact (Kd.C_below HR0_1.out HB.out) | (with_reducible refine Kd.C_alloc ?_ _) | (with_reducible refine Kd.C_drewN ?_ _) | (with_reducible refine Kd.C_drew ?_))); (case side2 => exact HC0_1.out); rintro e w9 ⟨rfl, hb⟩; refine ⟨_, rfl, ?_⟩; replace BK180 := nk BK180 hb; replace HB := bs hb; (try clear hb)))
  go_ret2
  exact ⟨rs, bw⟩
 ·replace c3 := Bool.eq_false_iff.mpr c3
  subst c3
  rw [if_neg (show ¬ (false = true) by decide)] at H
  simp only [Option.some.injEq, Prod.mk.injEq] at H
  obtain ⟨rfl, rfl⟩ := H
  go_enter Tryd.func11, Tryd.ntmps11
  go_wp2_with (first | ((with_reducible refine gate_dst (N := 1) rfl ?_); refine bx 1 36 #[.int .i64 a0_0, .slice A0_1 l0_1.length c0_1] ?_; intro gb180 hg w10 hbox hb; have BK180 := hbox; have GW180 := gs hg; have GE180 := gs hg; replace HB := bs hb; clear hb hbox hg; have hcz11_0 := bc BK180 0 (.int .i64 a0_0); have hcz11_1 := bc BK180 1 (.slice A0_1 l0_1.length c0_1); have hfz11_0 := blk_frozen BK180.out 0; have hfz11_1 := blk_frozen BK180.out 1) | ((with_reducible refine gate_callee (f := 21) rfl ?_); refine gl (some 5) Tryd.func21 #[.agg #[.int .i64 a0_0, .slice A0_1 l0_1.length c0_1]] ?_; (with_reducible refine (impl_isPuzzle.calls k a0_0 _ _ l0_1 false _ ?side1 ?side2 A2.out).mono ?_); (case side1 => repeat (first | exact (Kd.C_below HR0_1.out HB.out) | (with_reducible refine Kd.C_alloc ?_ _) | (with_reducible refine Kd.C_drewN ?_ _) | (with_reducible refine Kd.C_drew ?_))); (case side2 => exact HC0_1.out); rintro e w12 ⟨rfl, hb⟩; refine ⟨_, rfl, ?_⟩; replace BK180 := nk BK180 hb; replace HB := bs hb; (try clear hb)))
  go_ret2
  exact ⟨rs, bw⟩

/-! ### laws_eqClue: function 38 -/
def laws_eqClue.f (a0_0 : Int) (a0_1 : Int) (a0_2 : Int) (a0_3 : Int) (a1_0 : Int) (a1_1 : Int) (a1_2 : Int) (a1_3 : Int) : Option (Bool) := if a0_0 = a1_0 then (if a0_1 = a1_1 then (if a0_2 = a1_2 then (if a0_3 = a1_3 then (some true) else (some false)) else (some false)) else (some false)) else (some false)
set_option maxHeartbeats 8000000 in
set_option maxRecDepth 100000 in
theorem laws_eqClue.calls (a0_0 : Int) (a0_1 : Int) (a0_2 : Int) (a0_3 : Int) (a1_0 : Int) (a1_1 : Int) (a1_2 : Int) (a1_3 : Int) (r : Bool) (w : World) (h : laws_eqClue.f a0_0 a0_1 a0_2 a0_3 a1_0 a1_1 a1_2 a1_3 = some r) :
  Calls Tryd.prog 38 #[.agg #[.int .i64 a0_0, .int .i64 a0_1, .int .i64 a0_2, .int .i64 a0_3], .agg #[.int .i64 a1_0, .int .i64 a1_1, .int .i64 a1_2, .int .i64 a1_3]] w fun e w' => e = .returned (.bool r) ∧ Below w.heap.size w w' := by
 have hu51 := Tryd.underlying51
 have HB := Aside0.mk (Below.refl w.heap.size w)
 unfold laws_eqClue.f at h
 have H := h
 clear h
 by_cases c3 : a0_0 = a1_0
 ·rw [if_pos c3] at H
  have c3b0 : (a0_0 == a1_0) = true := beq_iff_eq.mpr c3
  have c3b1 : (a0_0 != a1_0) = false := bne_eq_false_iff_eq.mpr c3
  clear c3
  by_cases c4 : a0_1 = a1_1
  ·rw [if_pos c4] at H
   have c4b0 : (a0_1 == a1_1) = true := beq_iff_eq.mpr c4
   have c4b1 : (a0_1 != a1_1) = false := bne_eq_false_iff_eq.mpr c4
   clear c4
   by_cases c5 : a0_2 = a1_2
   ·rw [if_pos c5] at H
    have c5b0 : (a0_2 == a1_2) = true := beq_iff_eq.mpr c5
    have c5b1 : (a0_2 != a1_2) = false := bne_eq_false_iff_eq.mpr c5
    clear c5
    by_cases c6 : a0_3 = a1_3
    ·rw [if_pos c6] at H
     have c6b0 : (a0_3 == a1_3) = true := beq_iff_eq.mpr c6
     have c6b1 : (a0_3 != a1_3) = false := bne_eq_false_iff_eq.mpr c6
     clear c6
     obtain rfl := Option.some.inj H
     go_enter Tryd.func38, Tryd.ntmps38
     go_wp2_with (first | ((with_reducible refine gate_dst (N := 2) rfl ?_); refine bx 2 51 #[.int .i64 a0_0, .int .i64 a0_1, .int .i64 a0_2, .int .i64 a0_3] ?_; intro gb183 hg w7 hbox hb; have BK183 := hbox; have GW183 := gs hg; have GE183 := gs hg; replace HB := bs hb; clear hb hbox hg) | ((with_reducible refine gate_dst (N := 3) rfl ?_); refine bx 3 51 #[.int .i64 a1_0, .int .i64 a1_1, .int .i64 a1_2, .int .i64 a1_3] ?_; intro gb184 hg w8 hbox hb; have BK184 := hbox; have GW184 := gs hg; have GE184 := gs hg; replace HB := bs hb; have NB183_184 := nl BK183 hg; have NB184_183 := ng BK183 hg; replace BK183 := nk BK183 hb; clear hb hbox hg; have hnb9 := NB183_184.out; have hnc9 := NB184_183.out; have hcz10_0 := bc BK183 0 (.int .i64 a0_0); have hcz10_1 := bc BK183 1 (.int .i64 a0_1); have hcz10_2 := bc BK183 2 (.int .i64 a0_2); have hcz10_3 := bc BK183 3 (.int .i64 a0_3); have hfz10_0 := blk_frozen BK183.out 0; have hfz10_1 := blk_frozen BK183.out 1; have hfz10_2 := blk_frozen BK183.out 2; have hfz10_3 := blk_frozen BK183.out 3; have hcz11_0 := bc BK184 0 (.int .i64 a1_0); have hcz11_1 := bc BK184 1 (.int .i64 a1_1); have hcz11_2 := bc BK184 2 (.int .i64 a1_2); have hcz11_3 := bc BK184 3 (.int .i64 a1_3); have hfz11_0 := blk_frozen BK184.out 0; have hfz11_1 := blk_frozen BK184.out 1; have hfz11_2 := blk_frozen BK184.out 2; have hfz11_3 := blk_frozen BK184.out 3))
     go_ret
     exact ⟨rs, bw⟩
    ·rw [if_neg c6] at H
     have c6b0 : (a0_3 == a1_3) = false := beq_eq_false_iff_ne.mpr c6
     have c6b1 : (a0_3 != a1_3) = true := bne_iff_ne.mpr c6
     obtain rfl := Option.some.inj H
     go_enter Tryd.func38, Tryd.ntmps38
     go_wp2_with (first | ((with_reducible refine gate_dst (N := 2) rfl ?_); refine bx 2 51 #[.int .i64 a0_0, .int .i64 a0_1, .int .i64 a0_2, .int .i64 a0_3] ?_; intro gb183 hg w12 hbox hb; have BK183 := hbox; have GW183 := gs hg; have GE183 := gs hg; replace HB := bs hb; clear hb hbox hg) | ((with_reducible refine gate_dst (N := 3) rfl ?_); refine bx 3 51 #[.int .i64 a1_0, .int .i64 a1_1, .int .i64 a1_2, .int .i64 a1_3] ?_; intro gb184 hg w13 hbox hb; have BK184 := hbox; have GW184 := gs hg; have GE184 := gs hg; replace HB := bs hb; have NB183_184 := nl BK183 hg; have NB184_183 := ng BK183 hg; replace BK183 := nk BK183 hb; clear hb hbox hg; have hnb14 := NB183_184.out; have hnc14 := NB184_183.out; have hcz15_0 := bc BK183 0 (.int .i64 a0_0); have hcz15_1 := bc BK183 1 (.int .i64 a0_1); have hcz15_2 := bc BK183 2 (.int .i64 a0_2); have hcz15_3 := bc BK183 3 (.int .i64 a0_3); have hfz15_0 := blk_frozen BK183.out 0; have hfz15_1 := blk_frozen BK183.out 1; have hfz15_2 := blk_frozen BK183.out 2; have hfz15_3 := blk_frozen BK183.out 3; have hcz16_0 := bc BK184 0 (.int .i64 a1_0); have hcz16_1 := bc BK184 1 (.int .i64 a1_1); have hcz16_2 := bc BK184 2 (.int .i64 a1_2); have hcz16_3 := bc BK184 3 (.int .i64 a1_3); have hfz16_0 := blk_frozen BK184.out 0; have hfz16_1 := blk_frozen BK184.out 1; have hfz16_2 := blk_frozen BK184.out 2; have hfz16_3 := blk_frozen BK184.out 3))
     go_ret
     exact ⟨rs, bw⟩
   ·rw [if_neg c5] at H
    have c5b0 : (a0_2 == a1_2) = false := beq_eq_false_iff_ne.mpr c5
    have c5b1 : (a0_2 != a1_2) = true := bne_iff_ne.mpr c5
    obtain rfl := Option.some.inj H
    go_enter Tryd.func38, Tryd.ntmps38
    go_wp2_with (first | ((with_reducible refine gate_dst (N := 2) rfl ?_); refine bx 2 51 #[.int .i64 a0_0, .int .i64 a0_1, .int .i64 a0_2, .int .i64 a0_3] ?_; intro gb183 hg w17 hbox hb; have BK183 := hbox; have GW183 := gs hg; have GE183 := gs hg; replace HB := bs hb; clear hb hbox hg) | ((with_reducible refine gate_dst (N := 3) rfl ?_); refine bx 3 51 #[.int .i64 a1_0, .int .i64 a1_1, .int .i64 a1_2, .int .i64 a1_3] ?_; intro gb184 hg w18 hbox hb; have BK184 := hbox; have GW184 := gs hg; have GE184 := gs hg; replace HB := bs hb; have NB183_184 := nl BK183 hg; have NB184_183 := ng BK183 hg; replace BK183 := nk BK183 hb; clear hb hbox hg; have hnb19 := NB183_184.out; have hnc19 := NB184_183.out; have hcz20_0 := bc BK183 0 (.int .i64 a0_0); have hcz20_1 := bc BK183 1 (.int .i64 a0_1); have hcz20_2 := bc BK183 2 (.int .i64 a0_2); have hcz20_3 := bc BK183 3 (.int .i64 a0_3); have hfz20_0 := blk_frozen BK183.out 0; have hfz20_1 := blk_frozen BK183.out 1; have hfz20_2 := blk_frozen BK183.out 2; have hfz20_3 := blk_frozen BK183.out 3; have hcz21_0 := bc BK184 0 (.int .i64 a1_0); have hcz21_1 := bc BK184 1 (.int .i64 a1_1); have hcz21_2 := bc BK184 2 (.int .i64 a1_2); have hcz21_3 := bc BK184 3 (.int .i64 a1_3); have hfz21_0 := blk_frozen BK184.out 0; have hfz21_1 := blk_frozen BK184.out 1; have hfz21_2 := blk_frozen BK184.out 2; have hfz21_3 := blk_frozen BK184.out 3))
    go_ret
    exact ⟨rs, bw⟩
  ·rw [if_neg c4] at H
   have c4b0 : (a0_1 == a1_1) = false := beq_eq_false_iff_ne.mpr c4
   have c4b1 : (a0_1 != a1_1) = true := bne_iff_ne.mpr c4
   obtain rfl := Option.some.inj H
   go_enter Tryd.func38, Tryd.ntmps38
   go_wp2_with (first | ((with_reducible refine gate_dst (N := 2) rfl ?_); refine bx 2 51 #[.int .i64 a0_0, .int .i64 a0_1, .int .i64 a0_2, .int .i64 a0_3] ?_; intro gb183 hg w22 hbox hb; have BK183 := hbox; have GW183 := gs hg; have GE183 := gs hg; replace HB := bs hb; clear hb hbox hg) | ((with_reducible refine gate_dst (N := 3) rfl ?_); refine bx 3 51 #[.int .i64 a1_0, .int .i64 a1_1, .int .i64 a1_2, .int .i64 a1_3] ?_; intro gb184 hg w23 hbox hb; have BK184 := hbox; have GW184 := gs hg; have GE184 := gs hg; replace HB := bs hb; have NB183_184 := nl BK183 hg; have NB184_183 := ng BK183 hg; replace BK183 := nk BK183 hb; clear hb hbox hg; have hnb24 := NB183_184.out; have hnc24 := NB184_183.out; have hcz25_0 := bc BK183 0 (.int .i64 a0_0); have hcz25_1 := bc BK183 1 (.int .i64 a0_1); have hcz25_2 := bc BK183 2 (.int .i64 a0_2); have hcz25_3 := bc BK183 3 (.int .i64 a0_3); have hfz25_0 := blk_frozen BK183.out 0; have hfz25_1 := blk_frozen BK183.out 1; have hfz25_2 := blk_frozen BK183.out 2; have hfz25_3 := blk_frozen BK183.out 3; have hcz26_0 := bc BK184 0 (.int .i64 a1_0); have hcz26_1 := bc BK184 1 (.int .i64 a1_1); have hcz26_2 := bc BK184 2 (.int .i64 a1_2); have hcz26_3 := bc BK184 3 (.int .i64 a1_3); have hfz26_0 := blk_frozen BK184.out 0; have hfz26_1 := blk_frozen BK184.out 1; have hfz26_2 := blk_frozen BK184.out 2; have hfz26_3 := blk_frozen BK184.out 3))
   go_ret
   exact ⟨rs, bw⟩
 ·rw [if_neg c3] at H
  have c3b0 : (a0_0 == a1_0) = false := beq_eq_false_iff_ne.mpr c3
  have c3b1 : (a0_0 != a1_0) = true := bne_iff_ne.mpr c3
  obtain rfl := Option.some.inj H
  go_enter Tryd.func38, Tryd.ntmps38
  go_wp2_with (first | ((with_reducible refine gate_dst (N := 2) rfl ?_); refine bx 2 51 #[.int .i64 a0_0, .int .i64 a0_1, .int .i64 a0_2, .int .i64 a0_3] ?_; intro gb183 hg w27 hbox hb; have BK183 := hbox; have GW183 := gs hg; have GE183 := gs hg; replace HB := bs hb; clear hb hbox hg) | ((with_reducible refine gate_dst (N := 3) rfl ?_); refine bx 3 51 #[.int .i64 a1_0, .int .i64 a1_1, .int .i64 a1_2, .int .i64 a1_3] ?_; intro gb184 hg w28 hbox hb; have BK184 := hbox; have GW184 := gs hg; have GE184 := gs hg; replace HB := bs hb; have NB183_184 := nl BK183 hg; have NB184_183 := ng BK183 hg; replace BK183 := nk BK183 hb; clear hb hbox hg; have hnb29 := NB183_184.out; have hnc29 := NB184_183.out; have hcz30_0 := bc BK183 0 (.int .i64 a0_0); have hcz30_1 := bc BK183 1 (.int .i64 a0_1); have hcz30_2 := bc BK183 2 (.int .i64 a0_2); have hcz30_3 := bc BK183 3 (.int .i64 a0_3); have hfz30_0 := blk_frozen BK183.out 0; have hfz30_1 := blk_frozen BK183.out 1; have hfz30_2 := blk_frozen BK183.out 2; have hfz30_3 := blk_frozen BK183.out 3; have hcz31_0 := bc BK184 0 (.int .i64 a1_0); have hcz31_1 := bc BK184 1 (.int .i64 a1_1); have hcz31_2 := bc BK184 2 (.int .i64 a1_2); have hcz31_3 := bc BK184 3 (.int .i64 a1_3); have hfz31_0 := blk_frozen BK184.out 0; have hfz31_1 := blk_frozen BK184.out 1; have hfz31_2 := blk_frozen BK184.out 2; have hfz31_3 := blk_frozen BK184.out 3))
  go_ret
  exact ⟨rs, bw⟩

end Go.Proofs.YtonnpncccjpmaaaDoor.PFnExactPuzzleText
