-- Laid by xprint, a program of this session that runs over the kit's print.
import Derived.Test.YthjbmojacgkdcaaGreatDoorPFnRowsHiddenx3
namespace Go.Proofs.YthjbmojacgkdcaaGreatDoor.PFnRowsHidden
open Go.RowKit Go.Proofs.YthjbmojacgkdcaaGreatDoorW.PrintWords Go.Proofs.YthjbmojacgkdcaaGreatDoorW.PrintLast Go.Proofs.YthjbmojacgkdcaaGreatDoorW.PrintMore Go.Proofs.YthjbmojacgkdcaaGreatDoor.Sq
attribute [local go_sem] max2_int min2_int max_two min_two max_three min_three max_four min_four   -- for this text's walks alone
set_option linter.unusedVariables false
set_option linter.unusedSimpArgs false

/-! ### impl_Clue_told: function 42 -/
def impl_Clue_told.f (k : Nat) (a0_0 : Int) (a0_1 : Int) (a0_2 : Int) (a0_3 : Int) (a1 : ByteArray) : Option (Int × Int × Int × Int) := if a0_0 = 0 then ((impl_RowAfter.f k a1 a0_2).bind fun bt174 => (if 0 ≤ a0_1 then (if a0_1 < (bt174.1.size : Int) then (if (bt bt174.1 a0_1) = 62 then (some (a0_0, a0_1, a0_2, 1)) else (some (a0_0, a0_1, a0_2, 0))) else (none)) else (none))) else (if a0_0 = 1 then ((strings_Count.f a1 (⟨#[62]⟩ : ByteArray)).bind fun t176 => (some (a0_0, a0_1, a0_2, t176))) else (if a0_0 = 2 then ((impl_ticksToRest.f k a1).bind fun t177 => (some (a0_0, a0_1, a0_2, t177))) else (if a0_0 = 3 then ((impl_facing.f k a1).bind fun t178 => (some (a0_0, a0_1, a0_2, (t178.length : Int)))) else (if a0_0 = 4 then ((impl_TurnsOfEach.f k a1).bind fun bt181 => (if 0 ≤ a0_1 then (if a0_1 < (bt181.1.length : Int) then (some (a0_0, a0_1, a0_2, rd bt181.1 a0_1)) else (none)) else (none))) else (some (a0_0, a0_1, a0_2, a0_3))))))
theorem impl_Clue_told.mono : ∀ a0 a1 a2 a3 a4 k, LeO (impl_Clue_told.f k a0 a1 a2 a3 a4) (impl_Clue_told.f (k + 1) a0 a1 a2 a3 a4) := by
  intro a0 a1 a2 a3 a4 k
  unfold impl_Clue_told.f
  repeat' first
      | (with_reducible exact impl_RowAfter.mono _ _ _)
      | (with_reducible exact impl_TurnsOfEach.mono _ _)
      | (with_reducible exact impl_facing.mono _ _)
      | (with_reducible exact impl_ticksToRest.mono _ _)
      | (with_reducible exact LeO.refl _)
      | (with_reducible exact LeO.none _)
      | (with_reducible refine LeO.ite ?_ ?_)
      | (with_reducible refine LeO.bind ?_ (fun _ => ?_))
      | exact impl_RowAfter.mono _ _ _
      | exact impl_TurnsOfEach.mono _ _
      | exact impl_facing.mono _ _
      | exact impl_ticksToRest.mono _ _
      | exact LeO.none _
      | refine LeO.ite ?_ ?_
      | refine LeO.bind ?_ (fun _ => ?_)
set_option maxHeartbeats 8000000 in
set_option maxRecDepth 100000 in
theorem impl_Clue_told.calls (k : Nat) (a0_0 : Int) (a0_1 : Int) (a0_2 : Int) (a0_3 : Int) (a1 : ByteArray) (r1 : Int) (r2 : Int) (r3 : Int) (r4 : Int) (w : World) (hm : Dr.Tab w) (h : impl_Clue_told.f k a0_0 a0_1 a0_2 a0_3 a1 = some (r1, r2, r3, r4)) :
  Calls Tryz.prog 42 #[.agg #[.int .i64 a0_0, .int .i64 a0_1, .int .i64 a0_2, .int .i64 a0_3], .string a1] w fun e w' => e = .returned (.agg #[.int .i64 r1, .int .i64 r2, .int .i64 r3, .int .i64 r4]) ∧ Below w.heap.size w w' := by
 have hu37 := Tryz.underlying37
 have HB := Aside0.mk (Below.refl w.heap.size w)
 have HMM := Aside0.mk hm
 clear hm
 unfold impl_Clue_told.f at h
 have H := h
 clear h
 by_cases c3 : a0_0 = 0
 ·rw [if_pos c3] at H
  have c3b0 : (a0_0 == 0) = true := beq_iff_eq.mpr c3
  have c3b1 : (a0_0 != 0) = false := bne_eq_false_iff_eq.mpr c3
  clear c3
  obtain ⟨⟨t174, t175⟩, A4, H⟩ := ob H
  (try dsimp only at H)
  obtain ⟨c5, H⟩ := oi H
  have c5b0 := decide_eq_true c5
  clear c5
  obtain ⟨c6, H⟩ := oi H
  have c6b0 := decide_eq_true c6
  clear c6
  go_enter Tryz.func42, Tryz.ntmps42
  go_wp2_with (first | ((with_reducible refine gd 2 ?_); refine bx 2 37 #[.int .i64 a0_0, .int .i64 a0_1, .int .i64 a0_2, .int .i64 a0_3] ?_; intro gb172 hg w9 hbox hb; have BK172 := hbox; have GW172 := gs hg; have GE172 := gs hg; replace HB := bs hb; clear hb hbox hg) | ((with_reducible refine gd 4 ?_); refine bx 4 37 #[.int .i64 0, .int .i64 0, .int .i64 0, .int .i64 0] ?_; intro gb173 hg w10 hbox hb; have BK173 := hbox; have GW173 := gs hg; have GE173 := gs hg; replace HB := bs hb; have ⟨NB172_173, NB173_172⟩ := nn BK172 hg; replace BK172 := nk BK172 hb; clear hb hbox hg; have hnb11 := nb NB172_173; obtain ⟨hcz12_0, hcz12_1, hcz12_2, hcz12_3, hfz12_0, hfz12_1, hfz12_2, hfz12_3⟩ := z4 BK172) | ((with_reducible refine gc 14 ?_); refine gl (some 17) Tryz.func14 #[.string a1, .int .i64 a0_2] ?_; (with_reducible refine (impl_RowAfter.calls k a1 a0_2 t174 t175 _ ?_ A4.out).mono ?_); exact Dr.mm HMM; rintro e w13 ⟨rfl, hb⟩; refine ⟨_, rfl, ?_⟩; replace BK172 := nk BK172 hb; replace BK173 := nk BK173 hb; replace HB := bs hb; (try clear hb); have hz14 := z4 BK172; have p7 : 0 ≤ (a0_1 : Int) := of_decide_eq_true asm; have q7 : a0_1 < (t174.size : Int) := of_decide_eq_true asm; have hx7 := bt_at t174 a0_1; replace p7 := eq_true p7; replace q7 := eq_true q7; have hz15 := z4 BK173; refine halt ?_))
  by_cases c8 : (bt t174 a0_1) = 62
  ·rw [if_pos c8] at H
   have c8b0 : ((bt t174 a0_1) == 62) = true := beq_iff_eq.mpr c8
   have c8b1 : ((bt t174 a0_1) != 62) = false := bne_eq_false_iff_eq.mpr c8
   clear c8
   simp only [Option.some.injEq, Prod.mk.injEq] at H
   obtain ⟨rfl, rfl, rfl, rfl⟩ := H
   refine Aside0.mk ?_
   try go_wp2
   refine bodyPost_ret (results_cell_row rfl _ _ gb173 37 #[.int .i64 a0_0, .int .i64 a0_1, .int .i64 a0_2, .int .i64 1] (0, 0) _ rfl (pz BK173) Tryz.underlying37 rfl (by kernel_rfl)) rfl ?_
   exact ⟨rs, bw⟩
  rw [if_neg c8] at H
  have c8b0 : ((bt t174 a0_1) == 62) = false := beq_eq_false_iff_ne.mpr c8
  have c8b1 : ((bt t174 a0_1) != 62) = true := bne_iff_ne.mpr c8
  simp only [Option.some.injEq, Prod.mk.injEq] at H
  obtain ⟨rfl, rfl, rfl, rfl⟩ := H
  refine Aside0.mk ?_
  try go_wp2
  refine bodyPost_ret (results_cell_row rfl _ _ gb173 37 #[.int .i64 a0_0, .int .i64 a0_1, .int .i64 a0_2, .int .i64 0] (0, 0) _ rfl (pz BK173) Tryz.underlying37 rfl (by kernel_rfl)) rfl ?_
  exact ⟨rs, bw⟩
 rw [if_neg c3] at H
 have c3b0 : (a0_0 == 0) = false := beq_eq_false_iff_ne.mpr c3
 have c3b1 : (a0_0 != 0) = true := bne_iff_ne.mpr c3
 by_cases c23 : a0_0 = 1
 ·rw [if_pos c23] at H
  have c23b0 : (a0_0 == 1) = true := beq_iff_eq.mpr c23
  have c23b1 : (a0_0 != 1) = false := bne_eq_false_iff_eq.mpr c23
  clear c23
  obtain ⟨t176, A24, H⟩ := ob H
  (try dsimp only at H)
  simp only [Option.some.injEq, Prod.mk.injEq] at H
  obtain ⟨rfl, rfl, rfl, rfl⟩ := H
  go_enter Tryz.func42, Tryz.ntmps42
  go_wp2_with (first | ((with_reducible refine gd 2 ?_); refine bx 2 37 #[.int .i64 a0_0, .int .i64 a0_1, .int .i64 a0_2, .int .i64 a0_3] ?_; intro gb172 hg w25 hbox hb; have BK172 := hbox; have GW172 := gs hg; have GE172 := gs hg; replace HB := bs hb; clear hb hbox hg) | ((with_reducible refine gd 4 ?_); refine bx 4 37 #[.int .i64 0, .int .i64 0, .int .i64 0, .int .i64 0] ?_; intro gb173 hg w26 hbox hb; have BK173 := hbox; have GW173 := gs hg; have GE173 := gs hg; replace HB := bs hb; have ⟨NB172_173, NB173_172⟩ := nn BK172 hg; replace BK172 := nk BK172 hb; clear hb hbox hg; have hnb27 := nb NB172_173; obtain ⟨hcz28_0, hcz28_1, hcz28_2, hcz28_3, hfz28_0, hfz28_1, hfz28_2, hfz28_3⟩ := z4 BK172) | ((with_reducible refine gc 70 ?_); refine gl (some 30) Tryz.func70 #[.string a1, .string (⟨#[62]⟩ : ByteArray)] ?_; (with_reducible refine (strings_Count.calls a1 (⟨#[62]⟩ : ByteArray) t176 _ A24.out).mono ?_); rintro e w29 ⟨rfl, hb⟩; refine ⟨_, rfl, ?_⟩; replace BK172 := nk BK172 hb; replace BK173 := nk BK173 hb; replace HB := bs hb; (try clear hb); have hz30 := z4 BK172; have hz31 := z4 BK173))
  refine bodyPost_ret (results_cell_row rfl _ _ gb173 37 #[.int .i64 a0_0, .int .i64 a0_1, .int .i64 a0_2, .int .i64 t176] (0, 0) _ rfl (pz BK173) Tryz.underlying37 rfl (by kernel_rfl)) rfl ?_
  exact ⟨rs, bw⟩
 rw [if_neg c23] at H
 have c23b0 : (a0_0 == 1) = false := beq_eq_false_iff_ne.mpr c23
 have c23b1 : (a0_0 != 1) = true := bne_iff_ne.mpr c23
 by_cases c32 : a0_0 = 2
 ·rw [if_pos c32] at H
  have c32b0 : (a0_0 == 2) = true := beq_iff_eq.mpr c32
  have c32b1 : (a0_0 != 2) = false := bne_eq_false_iff_eq.mpr c32
  clear c32
  obtain ⟨t177, A33, H⟩ := ob H
  (try dsimp only at H)
  simp only [Option.some.injEq, Prod.mk.injEq] at H
  obtain ⟨rfl, rfl, rfl, rfl⟩ := H
  go_enter Tryz.func42, Tryz.ntmps42
  go_wp2_with (first | ((with_reducible refine gd 2 ?_); refine bx 2 37 #[.int .i64 a0_0, .int .i64 a0_1, .int .i64 a0_2, .int .i64 a0_3] ?_; intro gb172 hg w34 hbox hb; have BK172 := hbox; have GW172 := gs hg; have GE172 := gs hg; replace HB := bs hb; clear hb hbox hg) | ((with_reducible refine gd 4 ?_); refine bx 4 37 #[.int .i64 0, .int .i64 0, .int .i64 0, .int .i64 0] ?_; intro gb173 hg w35 hbox hb; have BK173 := hbox; have GW173 := gs hg; have GE173 := gs hg; replace HB := bs hb; have ⟨NB172_173, NB173_172⟩ := nn BK172 hg; replace BK172 := nk BK172 hb; clear hb hbox hg; have hnb36 := nb NB172_173; have hz37 := z4 BK172) | ((with_reducible refine gc 47 ?_); refine gl (some 35) Tryz.func47 #[.string a1] ?_; (with_reducible refine (impl_ticksToRest.calls k a1 t177 _ ?_ A33.out).mono ?_); exact Dr.mm HMM; rintro e w38 ⟨rfl, hb⟩; refine ⟨_, rfl, ?_⟩; replace BK172 := nk BK172 hb; replace BK173 := nk BK173 hb; replace HB := bs hb; (try clear hb); have hz39 := z4 BK172; have hz40 := z4 BK173))
  refine bodyPost_ret (results_cell_row rfl _ _ gb173 37 #[.int .i64 a0_0, .int .i64 a0_1, .int .i64 a0_2, .int .i64 t177] (0, 0) _ rfl (pz BK173) Tryz.underlying37 rfl (by kernel_rfl)) rfl ?_
  exact ⟨rs, bw⟩
 rw [if_neg c32] at H
 have c32b0 : (a0_0 == 2) = false := beq_eq_false_iff_ne.mpr c32
 have c32b1 : (a0_0 != 2) = true := bne_iff_ne.mpr c32
 by_cases c41 : a0_0 = 3
 ·rw [if_pos c41] at H
  have c41b0 : (a0_0 == 3) = true := beq_iff_eq.mpr c41
  have c41b1 : (a0_0 != 3) = false := bne_eq_false_iff_eq.mpr c41
  clear c41
  obtain ⟨t178, A42, H⟩ := ob H
  (try dsimp only at H)
  simp only [Option.some.injEq, Prod.mk.injEq] at H
  obtain ⟨rfl, rfl, rfl, rfl⟩ := H
  go_enter Tryz.func42, Tryz.ntmps42
  go_wp2_with (first | ((with_reducible refine gd 2 ?_); refine bx 2 37 #[.int .i64 a0_0, .int .i64 a0_1, .int .i64 a0_2, .int .i64 a0_3] ?_; intro gb172 hg w43 hbox hb; have BK172 := hbox; have GW172 := gs hg; have GE172 := gs hg; replace HB := bs hb; clear hb hbox hg) | ((with_reducible refine gd 4 ?_); refine bx 4 37 #[.int .i64 0, .int .i64 0, .int .i64 0, .int .i64 0] ?_; intro gb173 hg w44 hbox hb; have BK173 := hbox; have GW173 := gs hg; have GE173 := gs hg; replace HB := bs hb; have ⟨NB172_173, NB173_172⟩ := nn BK172 hg; replace BK172 := nk BK172 hb; clear hb hbox hg; have hnb45 := nb NB172_173; have hz46 := z4 BK172) | ((with_reducible refine gc 50 ?_); refine gl (some 40) Tryz.func50 #[.string a1] ?_; (with_reducible refine (impl_facing.calls k a1 t178 _ A42.out).mono ?_); rintro e w47 ⟨v179, rfl, ho0, hb⟩; refine ⟨_, rfl, ?_⟩; have HO180 := Aside0.mk (Kd.R_lower ho0 (below_size bw)); replace BK172 := nk BK172 hb; replace BK173 := nk BK173 hb; replace HB := bs hb; (try clear hb); (try clear ho0); obtain ⟨Ao48, co48, eo48⟩ := Kd.R_slice HO180.out; subst eo48; have hz49 := z4 BK172; have hz50 := z4 BK173))
  refine bodyPost_ret (results_cell_row rfl _ _ gb173 37 #[.int .i64 a0_0, .int .i64 a0_1, .int .i64 a0_2, .int .i64 (t178.length : Int)] (0, 0) _ rfl (pz BK173) Tryz.underlying37 rfl (by kernel_rfl)) rfl ?_
  exact ⟨rs, bw⟩
 rw [if_neg c41] at H
 have c41b0 : (a0_0 == 3) = false := beq_eq_false_iff_ne.mpr c41
 have c41b1 : (a0_0 != 3) = true := bne_iff_ne.mpr c41
 go_enter Tryz.func42, Tryz.ntmps42
 go_wp2_with (((with_reducible refine gd 2 ?_); refine bx 2 37 #[.int .i64 a0_0, .int .i64 a0_1, .int .i64 a0_2, .int .i64 a0_3] ?_; intro gb172 hg w55 hbox hb; have BK172 := hbox; have GW172 := gs hg; have GE172 := gs hg; replace HB := bs hb; clear hb hbox hg; refine halt ?_))
 by_cases c51 : a0_0 = 4
 ·rw [if_pos c51] at H
  have c51b0 : (a0_0 == 4) = true := beq_iff_eq.mpr c51
  have c51b1 : (a0_0 != 4) = false := bne_eq_false_iff_eq.mpr c51
  clear c51
  obtain ⟨⟨t181, t182⟩, A52, H⟩ := ob H
  (try dsimp only at H)
  obtain ⟨c53, H⟩ := oi H
  have c53b0 := decide_eq_true c53
  clear c53
  obtain ⟨c54, H⟩ := oi H
  have c54b0 := decide_eq_true c54
  clear c54
  simp only [Option.some.injEq, Prod.mk.injEq] at H
  obtain ⟨rfl, rfl, rfl, rfl⟩ := H
  refine Aside0.mk ?_
  try go_wp2_with (first | ((with_reducible refine gd 4 ?_); refine bx 4 37 #[.int .i64 0, .int .i64 0, .int .i64 0, .int .i64 0] ?_; intro gb173 hg w56 hbox hb; have BK173 := hbox; have GW173 := gs hg; have GE173 := gs hg; replace HB := bs hb; have ⟨NB172_173, NB173_172⟩ := nn BK172 hg; replace BK172 := nk BK172 hb; clear hb hbox hg; have hnb57 := nb NB172_173; have hz58 := z4 BK172) | ((with_reducible refine gc 12 ?_); refine gl (some 47) Tryz.func12 #[.string a1] ?_; (with_reducible refine (impl_TurnsOfEach.calls k a1 t181 t182 _ ?_ A52.out).mono ?_); exact Dr.mm HMM; rintro e w59 ⟨v183, rfl, ho0, hb⟩; refine ⟨_, rfl, ?_⟩; have HO184 := Aside0.mk (Kd.R_lower ho0 (below_size bw)); replace BK172 := nk BK172 hb; replace BK173 := nk BK173 hb; replace HB := bs hb; (try clear hb); (try clear ho0); have hz60 := z4 BK172; obtain ⟨Ao61, co61, eo61⟩ := Kd.R_slice HO184.out; subst eo61; have p185 : 0 ≤ (a0_1 : Int) := of_decide_eq_true asm; have q185 : a0_1 < (t181.length : Int) := of_decide_eq_true asm; obtain ⟨ad185, e185, hx185_0⟩ := Kd.at_int (Kd.R_reads' HO184.out).2.2 a0_1 p185 q185; cases e185; replace p185 := eq_true p185; replace q185 := eq_true q185; have hz62 := z4 BK173))
  refine bodyPost_ret (results_cell_row rfl _ _ gb173 37 #[.int .i64 a0_0, .int .i64 a0_1, .int .i64 a0_2, .int .i64 (rd t181 a0_1)] (0, 0) _ rfl (pz BK173) Tryz.underlying37 rfl (by kernel_rfl)) rfl ?_
  exact ⟨rs, bw⟩
 rw [if_neg c51] at H
 have c51b0 : (a0_0 == 4) = false := beq_eq_false_iff_ne.mpr c51
 have c51b1 : (a0_0 != 4) = true := bne_iff_ne.mpr c51
 simp only [Option.some.injEq, Prod.mk.injEq] at H
 obtain ⟨rfl, rfl, rfl, rfl⟩ := H
 refine Aside0.mk ?_
 try go_wp2_with (((with_reducible refine gd 4 ?_); refine bx 4 37 #[.int .i64 0, .int .i64 0, .int .i64 0, .int .i64 0] ?_; intro gb173 hg w64 hbox hb; have BK173 := hbox; have GW173 := gs hg; have GE173 := gs hg; replace HB := bs hb; have ⟨NB172_173, NB173_172⟩ := nn BK172 hg; replace BK172 := nk BK172 hb; clear hb hbox hg; have hnb65 := nb NB172_173; have hz66 := z4 BK172; have hz67 := z4 BK173))
 refine bodyPost_ret (results_cell_row rfl _ _ gb173 37 #[.int .i64 a0_0, .int .i64 a0_1, .int .i64 a0_2, .int .i64 a0_3] (0, 0) _ rfl (pz BK173) Tryz.underlying37 rfl (by kernel_rfl)) rfl ?_
 exact ⟨rs, bw⟩

/-! ### impl_MakePuzzle: function 6 -/
def impl_MakePuzzle.nx (z : Int) : Int := Int.tmod (wrap64 (wrap64 (z * 223) + 2161)) 10007
def impl_MakePuzzle.ya (a0 : ByteArray) (kd y : Int) : Int := if kd = 0 then Int.tmod y (a0.size : Int) else if kd = 4 then Int.tmod y (a0.size : Int) else 0
def impl_MakePuzzle.yb (kd y : Int) : Int := if kd = 0 then Int.tmod (wrap64 (Int.tdiv y 11)) 4 else 0
def impl_MakePuzzle.l0 : Nat → ByteArray → Int → Int → Int → List (S37) → Option (Int × List (S37) × Bool)
  | 0, _, _, _, _, _ => none
  | k + 1, a0, n, i, z, l => if i < n then (if (a0.size : Int) = 0 then none else ((impl_Clue_told.f k (Int.tmod (impl_MakePuzzle.nx z) 5) (impl_MakePuzzle.ya a0 (Int.tmod (impl_MakePuzzle.nx z) 5) (impl_MakePuzzle.nx (impl_MakePuzzle.nx z))) (impl_MakePuzzle.yb (Int.tmod (impl_MakePuzzle.nx z) 5) (impl_MakePuzzle.nx (impl_MakePuzzle.nx z))) 0 a0).bind fun q => (if l.length < 4398046511104 then impl_MakePuzzle.l0 k a0 n (wrap64 (i + 1)) (impl_MakePuzzle.nx (impl_MakePuzzle.nx z)) (l ++ [(⟨q.1, q.2.1, q.2.2.1, q.2.2.2⟩ : S37)]) else none))) else some ((a0.size : Int), l, true)
theorem impl_MakePuzzle.mono_l : ∀ k, (∀ y0 y1 y2 y3 y4, LeO (impl_MakePuzzle.l0 k y0 y1 y2 y3 y4) (impl_MakePuzzle.l0 (k + 1) y0 y1 y2 y3 y4))
  | 0 => fun _ _ _ _ _ r h => by simp [impl_MakePuzzle.l0] at h
  | k + 1 => by
    have ih0 := impl_MakePuzzle.mono_l k
    intro y0 y1 y2 y3 y4
    rw [impl_MakePuzzle.l0, impl_MakePuzzle.l0]
    exact LeO.ite (LeO.ite (LeO.none _) (LeO.bind (impl_Clue_told.mono _ _ _ _ _ _) (fun _ => LeO.ite (ih0 _ _ _ _ _) (LeO.none _)))) (LeO.refl _)
def impl_MakePuzzle.j0 (k : Nat) (a0 : ByteArray) (a1 a2 : Int) (x : Bool) : Option (Int × List (S37) × Bool) := if x = true then some (0, ([] : List (S37)), false) else impl_MakePuzzle.l0 k a0 a1 0 a2 []
def impl_MakePuzzle.f (k : Nat) (a0 : ByteArray) (a1 : Int) (a2 : Int) : Option (Int × List (S37) × Bool) := (impl_isRow.f a0).bind fun t1 => (if t1 = true then ((impl_isHidden.f (a0.size : Int)).bind fun t2 => (if t2 = true then ((impl_in.f a1 0 6).bind fun t3 => (if t3 = true then ((impl_in.f a2 0 9999).bind fun t4 => impl_MakePuzzle.j0 k a0 a1 a2 (!t4)) else impl_MakePuzzle.j0 k a0 a1 a2 true)) else impl_MakePuzzle.j0 k a0 a1 a2 true)) else impl_MakePuzzle.j0 k a0 a1 a2 true)
theorem impl_MakePuzzle.mono : ∀ a0 a1 a2 k, LeO (impl_MakePuzzle.f k a0 a1 a2) (impl_MakePuzzle.f (k + 1) a0 a1 a2) := by
  intro a0 a1 a2 k
  have hj : ∀ x, LeO (impl_MakePuzzle.j0 k a0 a1 a2 x) (impl_MakePuzzle.j0 (k + 1) a0 a1 a2 x) := fun x => LeO.ite (LeO.refl _) (impl_MakePuzzle.mono_l k _ _ _ _ _)
  unfold impl_MakePuzzle.f
  exact LeO.bind (LeO.refl _) (fun _ => LeO.ite (LeO.bind (LeO.refl _) (fun _ => LeO.ite (LeO.bind (LeO.refl _) (fun _ => LeO.ite (LeO.bind (LeO.refl _) (fun _ => hj _)) (hj _))) (hj _))) (hj _))
def impl_MakePuzzle.T14 : Bool × List (List Nat × List Nat) := (true, [([], []), ([0], [0]), ([], []), ([], []), ([2, 3], [2, 3]), ([4], [4]), ([1, 5, 4], [1, 5]), ([0, 1, 2, 3, 4, 5, 6], []), ([7, 6, 6, 0, 1, 2, 3, 4, 5, 6], [6, 7])])
def impl_MakePuzzle.B14 : List Nat := [0, 1, 0, 0, 12, 28, 63, 127, 255]
theorem impl_MakePuzzle.tab14 : rtab .any (opsOf Tryz.f6 14) = impl_MakePuzzle.T14 := by kernel_rfl
theorem impl_MakePuzzle.bits14 : waitsOk impl_MakePuzzle.T14.2 impl_MakePuzzle.B14 = true := by kernel_rfl
/-- The closure: it puts the next number into its variable. -/
theorem impl_MakePuzzle_next.calls (z : Int) (gz : Nat) (w : World) (hz : w.heap[gz]? = some (.cells #[.int .i64 z] 3 (0, 0))) :
  Calls Tryz.prog 41 #[.pointer (some ⟨gz, 0, none⟩)] w fun e w' => e = .returned (.int .i64 (impl_MakePuzzle.nx z)) ∧ w' = w.setCell ⟨gz, 0, none⟩ (.int .i64 (impl_MakePuzzle.nx z)) := by
 have hc0 : w.cell? ⟨gz, 0, none⟩ = some (.int .i64 z) := (blk_cell hz 0).trans rfl
 have hf0 := blk_frozen hz 0
 go_enter Tryz.func41, Tryz.ntmps41
 go_wp2
 go_ret
 exact ⟨rfl, rfl⟩
set_option maxHeartbeats 8000000 in
set_option maxRecDepth 100000 in
theorem impl_MakePuzzle.calls (k : Nat) (a0 : ByteArray) (a1 : Int) (a2 : Int) (r1 : Int) (r2 : List (S37)) (r3 : Bool) (w : World) (hm : Dr.Tab w) (h : impl_MakePuzzle.f k a0 a1 a2 = some (r1, r2, r3)) :
  Calls Tryz.prog 6 #[.string a0, .int .i64 a1, .int .i64 a2] w fun e w' => ∃ v1_ : Value, e = .returned (.tuple #[.agg #[.int .i64 r1, v1_], .bool r3]) ∧ Kd.R k37 37 w' w.heap.size (fun _ => True) v1_ r2 ∧ Below w.heap.size w w' := by
 have hu38 := Tryz.underlying28
 have hu33 := Tryz.underlying37
 have HMM := Aside0.mk hm
 have HB := Aside0.mk (Below.refl w.heap.size w)
 clear hm
 unfold impl_MakePuzzle.f at h
 have HC4 := Aside0.mk h
 clear h
 go_enter Tryz.func6, Tryz.ntmps6
 go_upto_region 1 with (first | ((with_reducible refine gd 6 ?_); refine box_event ?hg (N := 6) ?hd (cs := #[.int .i64 0, .slice none 0 0]) (t := 28) ?hr ?_; (case hd => rfl); (case hg => rfl); (case hr => first | (go_simp; done) | (go_simp; rfl)); intro g6 hg w5 hbox hb; have BK6 := Aside0.mk hbox; have GE6 := Aside0.mk ((by rw [hg]; exact (below_size bw)) : w.heap.size ≤ g6); replace HB := bs hb; clear hb hbox hg))
 (try simp only [Act.put, List.setIfInBounds_toArray, List.set_cons_zero, List.set_cons_succ])
 go_cut [31] (fun v31 wc => ∃ (x : Bool), v31 = .bool x ∧ Aside0 (impl_MakePuzzle.j0 k a0 a1 a2 x = some (r1, r2, r3)) ∧ Aside0 (wc.heap[g6]? = some (.cells #[.int .i64 0, .slice none 0 0] 28 (0, 0))) ∧ Aside0 (Below w.heap.size w wc))
 case first =>
  have H := HC4.out
  clear HC4
  obtain ⟨t1, A0, H⟩ := Option.bind_eq_some_iff.mp H
  have A1 := Aside0.mk A0
  clear A0
  by_cases c : t1 = true
  ·subst c
   rw [if_pos rfl] at H
   obtain ⟨t2, A0, H⟩ := Option.bind_eq_some_iff.mp H
   have A2 := Aside0.mk A0
   clear A0
   by_cases c : t2 = true
   ·subst c
    rw [if_pos rfl] at H
    obtain ⟨t3, A0, H⟩ := Option.bind_eq_some_iff.mp H
    have A3 := Aside0.mk A0
    clear A0
    by_cases c : t3 = true
    ·subst c
     rw [if_pos rfl] at H
     obtain ⟨t4, A0, H⟩ := Option.bind_eq_some_iff.mp H
     have A4 := Aside0.mk A0
     clear A0
     have H' := Aside0.mk H
     clear H
     go_wp2_with (first | (go_at_call 38; (with_reducible refine (impl_isRow.calls a0 true _ A1.out).mono ?_); rintro e w6 ⟨rfl, hb⟩; replace BK6 := Aside0.mk (blk_below (g := g6) (o := .cells #[.int .i64 0, .slice none 0 0] 28 (0, 0)) BK6.out hb); replace HB := Aside0.mk (below_step HB.out hb); clear hb) | (go_at_call 39; (with_reducible refine (impl_isHidden.calls (a0.size : Int) true _ A2.out).mono ?_); rintro e w7 ⟨rfl, ⟨nd, rfl⟩⟩) | (go_at_call 40; (with_reducible refine (impl_in.calls a1 0 6 true _ A3.out).mono ?_); rintro e w8 ⟨rfl, ⟨nd, rfl⟩⟩) | (go_at_call 40; (with_reducible refine (impl_in.calls a2 0 9999 t4 _ A4.out).mono ?_); rintro e w9 ⟨rfl, ⟨nd, rfl⟩⟩))
     go_meet
     case rel => exact ⟨(!t4), (rs), H', ⟨pk BK6⟩, ⟨bw⟩⟩
    replace c := Bool.eq_false_iff.mpr c
    subst c
    rw [if_neg (show ¬ (false = true) by decide)] at H
    have H' := Aside0.mk H
    clear H
    go_wp2_with (first | (go_at_call 38; (with_reducible refine (impl_isRow.calls a0 true _ A1.out).mono ?_); rintro e w6 ⟨rfl, hb⟩; replace BK6 := Aside0.mk (blk_below (g := g6) (o := .cells #[.int .i64 0, .slice none 0 0] 28 (0, 0)) BK6.out hb); replace HB := Aside0.mk (below_step HB.out hb); clear hb) | (go_at_call 39; (with_reducible refine (impl_isHidden.calls (a0.size : Int) true _ A2.out).mono ?_); rintro e w7 ⟨rfl, ⟨nd, rfl⟩⟩) | (go_at_call 40; (with_reducible refine (impl_in.calls a1 0 6 false _ A3.out).mono ?_); rintro e w8 ⟨rfl, ⟨nd, rfl⟩⟩))
    go_meet
    case rel => exact ⟨true, (rs), H', ⟨pk BK6⟩, ⟨bw⟩⟩
   replace c := Bool.eq_false_iff.mpr c
   subst c
   rw [if_neg (show ¬ (false = true) by decide)] at H
   have H' := Aside0.mk H
   clear H
   go_wp2_with (first | (go_at_call 38; (with_reducible refine (impl_isRow.calls a0 true _ A1.out).mono ?_); rintro e w6 ⟨rfl, hb⟩; replace BK6 := Aside0.mk (blk_below (g := g6) (o := .cells #[.int .i64 0, .slice none 0 0] 28 (0, 0)) BK6.out hb); replace HB := Aside0.mk (below_step HB.out hb); clear hb) | (go_at_call 39; (with_reducible refine (impl_isHidden.calls (a0.size : Int) false _ A2.out).mono ?_); rintro e w7 ⟨rfl, ⟨nd, rfl⟩⟩))
   go_meet
   case rel => exact ⟨true, (rs), H', ⟨pk BK6⟩, ⟨bw⟩⟩
  replace c := Bool.eq_false_iff.mpr c
  subst c
  rw [if_neg (show ¬ (false = true) by decide)] at H
  have H' := Aside0.mk H
  clear H
  go_wp2_with (first | (go_at_call 38; (with_reducible refine (impl_isRow.calls a0 false _ A1.out).mono ?_); rintro e w6 ⟨rfl, hb⟩; replace BK6 := Aside0.mk (blk_below (g := g6) (o := .cells #[.int .i64 0, .slice none 0 0] 28 (0, 0)) BK6.out hb); replace HB := Aside0.mk (below_step HB.out hb); clear hb))
  go_meet
  case rel => exact ⟨true, (rs), H', ⟨pk BK6⟩, ⟨bw⟩⟩
 case rest =>
  clear HC4 HB BK6
  obtain ⟨x, rfl, HA, BK6, HB⟩ := hcut
  have H := HA.out
  clear HA
  unfold impl_MakePuzzle.j0 at H
  by_cases c11 : x = true
  ·subst c11
   rw [if_pos rfl] at H
   simp only [Option.some.injEq, Prod.mk.injEq] at H
   obtain ⟨rfl, rfl, rfl⟩ := H
   have hcz12_0 : wc.cell? ⟨g6, 0, none⟩ = some (.int .i64 0) := ec BK6
   have hcz12_1 : wc.cell? ⟨g6, 1, none⟩ = some (.slice none 0 0) := ec BK6
   have hfz12_0 := blk_frozen BK6.out 0
   have hfz12_1 := blk_frozen BK6.out 1
   go_wp2
   refine bodyPost_ret (results_ct rfl _ _ g6 28 #[.int .i64 0, .slice none 0 0] (0, 0) _ rfl (pz BK6) Tryz.underlying28 rfl (by kernel_rfl)) rfl ?_
   exact ⟨_, rfl, Kd.R_nil _ _ _ _ _, bw⟩
  replace c11 := Bool.eq_false_iff.mpr c11
  subst c11
  rw [if_neg (show ¬ (false = true) by decide)] at H
  have H' := Aside0.mk H
  clear H
  go_wp2_with (first
   | ((with_reducible refine gd 8 ?_); refine box_event ?hg (N := 8) ?hd (cs := #[.int .i64 0]) (t := 3) ?hr ?_; (case hd => rfl); (case hg => rfl); (case hr => first | (go_simp; done) | (go_simp; rfl)); intro g8 hg w10 hbox hb; have NB := Aside0.mk (show g6 ≠ g8 by rw [hg]; exact Nat.ne_of_lt (blk_lt BK6.out)); have GE8 := Aside0.mk (show w.heap.size ≤ g8 by rw [hg]; exact below_size HB.out); replace BK6 := Aside0.mk (blk_below (g := g6) (o := .cells #[.int .i64 0, .slice none 0 0] 28 (0, 0)) BK6.out hb); have BK8 := Aside0.mk hbox; replace HB := Aside0.mk (below_step HB.out hb); clear hb hbox hg; have hcz8 : w10.cell? ⟨g8, 0, none⟩ = some (.int .i64 0) := ec BK8; have hfz8 := blk_frozen BK8.out 0)
   | ((with_reducible refine gd 10 ?_); refine box_event ?hg (N := 10) ?hd (cs := #[.int .i64 0, .slice none 0 0]) (t := 28) ?hr ?_; (case hd => rfl); (case hg => rfl); (case hr => first | (go_simp; done) | (go_simp; rfl)); intro g10 hg w11 hbox hb; have hb6 := blk_far (g := g6) BK6.out (p := ⟨g8, 0, none⟩) NB.out (.int .i64 a2); have hb8 := blk_put (cs := #[.int .i64 0]) (cs' := #[.int .i64 a2]) BK8.out 0 (.int .i64 a2) rfl; have hBB := below_set HB.out GE8.out (j := 0) (v := .int .i64 a2); have NC6 := Aside0.mk (show g6 ≠ g10 by rw [hg]; exact Nat.ne_of_lt (blk_lt hb6)); have NC8 := Aside0.mk (show g8 ≠ g10 by rw [hg]; exact Nat.ne_of_lt (blk_lt hb8)); have GE10 := Aside0.mk (show w.heap.size ≤ g10 by rw [hg]; exact below_size hBB); replace BK6 := Aside0.mk (blk_below hb6 hb); replace BK8 := Aside0.mk (blk_below hb8 hb); have BK10 := Aside0.mk hbox; replace HB := Aside0.mk (below_step hBB hb); clear hb hbox hg hb6 hb8 hBB hcz8 hfz8; have hcz10_0 : w11.cell? ⟨g10, 0, none⟩ = some (.int .i64 0) := ec BK10; have hcz10_1 : w11.cell? ⟨g10, 1, none⟩ = some (.slice none 0 0) := ec BK10; have hfz10_0 := blk_frozen BK10.out 0; have hfz10_1 := blk_frozen BK10.out 1))
  have HR0 := Aside0.mk (Kd.R_nil k37 37 w11 w.heap.size (fun _ => True))
  go_loopg [39] k (fun kq v39 w' => ∃ (i z : Int) (l : List (S37)) (v : Value), v39 = .int .i64 i ∧ Aside0 (impl_MakePuzzle.l0 kq a0 a1 i z l = some (r1, r2, r3)) ∧ Aside0 (kq ≤ k) ∧ Aside0 (Kd.R k37 37 w' w.heap.size (fun _ => True) v l) ∧ Aside0 (w'.heap[g6]? = some (.cells #[.int .i64 0, .slice none 0 0] 28 (0, 0))) ∧ Aside0 (w'.heap[g8]? = some (.cells #[.int .i64 z] 3 (0, 0))) ∧ Aside0 (w'.heap[g10]? = some (.cells #[.int .i64 (a0.size : Int), v] 28 (0, 0))) ∧ Aside0 (Below w.heap.size w w'))
  case atStart => exact ⟨0, a2, [], .slice none 0 0, (by first | rfl | (simp; done)), H', ⟨Nat.le_refl _⟩, ⟨Kd.R_nil _ _ _ _ _⟩, ⟨by (with_reducible repeat (first | apply b1 | apply b2 | apply b3)); refine blk_far ?_ NC6.out _; refine blk_far ?_ NC6.out _; exact BK6.out⟩, ⟨by (with_reducible repeat (first | apply b1 | apply b2 | apply b3)); refine blk_far ?_ NC8.out _; refine blk_far ?_ NC8.out _; exact BK8.out⟩, ⟨pz BK10⟩, ⟨bw⟩⟩
  case round =>
   clear H' HR0 BK6 BK8 BK10 HB hcz10_0 hcz10_1 hfz10_0 hfz10_1
   obtain ⟨i, z, l, v, rfl, HA, HK1, HO, BK6, BK8, BK10, HB⟩ := hrel
   cases gk with
   | zero => exact absurd HA.out (by simp [impl_MakePuzzle.l0])
   | succ k1 =>
    have H := HA.out
    clear HA
    simp only [impl_MakePuzzle.l0] at H
    by_cases c1 : i < a1
    ·rw [if_pos c1] at H
     have c1b : decide (i < a1) = true := decide_eq_true c1
     have c1c := eq_true c1
     by_cases c2 : (a0.size : Int) = 0
     ·rw [if_pos c2] at H
      cases H
     rw [if_neg c2] at H
     obtain ⟨z1, hz1⟩ : ∃ z1, z1 = impl_MakePuzzle.nx z := ⟨_, rfl⟩
     rw [← hz1] at H
     obtain ⟨z2, hz2⟩ : ∃ z2, z2 = impl_MakePuzzle.nx z1 := ⟨_, rfl⟩
     rw [← hz2] at H
     obtain ⟨A, hA⟩ : ∃ A, A = impl_MakePuzzle.ya a0 (Int.tmod z1 5) z2 := ⟨_, rfl⟩
     rw [← hA] at H
     obtain ⟨B, hB⟩ : ∃ B, B = impl_MakePuzzle.yb (Int.tmod z1 5) z2 := ⟨_, rfl⟩
     rw [← hB] at H
     obtain ⟨⟨q1, q2, q3, q4⟩, A0, H⟩ := Option.bind_eq_some_iff.mp H
     have AT := Aside0.mk A0
     clear A0
     by_cases c3 : l.length < 4398046511104
     ·rw [if_pos c3] at H
      obtain ⟨y, hy⟩ : ∃ y : List (S37), y = l ++ [(⟨q1, q2, q3, q4⟩ : S37)] := ⟨_, rfl⟩
      dsimp only at H
      rw [← hy] at H
      have HY := Aside0.mk hy
      clear hy
      have H' := Aside0.mk H
      have LM := Aside0.mk c3
      have HZ1 := Aside0.mk hz1
      have HZ2 := Aside0.mk hz2
      have HAA := Aside0.mk hA
      have HBB := Aside0.mk hB
      have HC2 := Aside0.mk c2
      clear H c3 hz1 hz2 hA hB c1 c2
      go_upto_region 9 with (first
       | ((with_reducible refine gd 42 ?_); refine Fv.goesV_ (some 42) rfl rfl Tryz.func41 (by kernel_rfl) rfl #[] rfl (by first | rfl | (go_simp; done)) (by first | rfl | (go_simp; done)) ?_; (refine (impl_MakePuzzle_next.calls z g8 _ BK8.out).mono ?_); rintro e w12 ⟨rfl, hw⟩; refine ⟨_, rfl, ?_⟩; rw [← HZ1.out] at hw; rw [← HZ1.out]; have n6 := Aside0.mk (show w12.heap[g6]? = some (.cells #[.int .i64 0, .slice none 0 0] 28 (0, 0)) by rw [hw]; exact blk_far BK6.out NB.out _); have n8 := Aside0.mk (show w12.heap[g8]? = some (.cells #[.int .i64 z1] 3 (0, 0)) by rw [hw]; exact blk_put (cs := #[.int .i64 z]) BK8.out 0 _ rfl); have n10 := Aside0.mk (show w12.heap[g10]? = some (.cells #[.int .i64 (a0.size : Int), v] 28 (0, 0)) by rw [hw]; exact blk_far BK10.out NC8.out.symm _); have nO := Aside0.mk (show Kd.R k37 37 w12 w.heap.size (fun _ => True) v l by rw [hw]; exact Kd.R_mono (Kd.R_far (p := ⟨g8, 0, none⟩) (Kd.R_types HO.out BK8.out (by decide)) (fun _ hk => hk.2) _) (fun _ hk => trivial)); have nB := Aside0.mk (show Below w.heap.size w w12 by rw [hw]; exact below_set HB.out GE8.out); clear BK6 BK8 BK10 HO HB hw; have BK6 := n6; have BK8 := n8; have BK10 := n10; have HO := nO; have HB := nB; clear n6 n8 n10 nO nB; have C1 := Aside0.mk True.intro)
       | ((with_reducible refine gd 11 ?_); refine box_event ?hg (N := 11) ?hd (cs := #[.int .i64 0, .int .i64 0, .int .i64 0, .int .i64 0]) (t := 37) ?hr ?_; (case hd => rfl); (case hg => rfl); (case hr => first | (go_simp; done) | (go_simp; rfl)); intro g11 hg w13 hbox hb; have N6 := Aside0.mk (show g6 ≠ g11 by rw [hg]; exact Nat.ne_of_lt (blk_lt BK6.out)); have N8 := Aside0.mk (show g8 ≠ g11 by rw [hg]; exact Nat.ne_of_lt (blk_lt BK8.out)); have N10 := Aside0.mk (show g10 ≠ g11 by rw [hg]; exact Nat.ne_of_lt (blk_lt BK10.out)); have GE11 := Aside0.mk (show w.heap.size ≤ g11 by rw [hg]; exact below_size HB.out); replace BK6 := Aside0.mk (blk_below BK6.out hb); replace BK8 := Aside0.mk (blk_below BK8.out hb); replace BK10 := Aside0.mk (blk_below BK10.out hb); have HO2 := Aside0.mk (show Kd.R k37 37 w13 w.heap.size (fun k => True ∧ k ≠ g11) v l from Kd.R_mono (Kd.R_old HO.out hb) (fun k hk => ⟨trivial, by rw [hg]; exact Nat.ne_of_lt hk.2⟩)); clear HO; have HO := HO2; clear HO2; replace HB := Aside0.mk (below_step HB.out hb); have BK11 := Aside0.mk hbox; clear hb hbox hg; have hcz11_0 : w13.cell? ⟨g11, 0, none⟩ = some (.int .i64 0) := ec BK11; have hcz11_1 : w13.cell? ⟨g11, 1, none⟩ = some (.int .i64 0) := ec BK11; have hcz11_2 : w13.cell? ⟨g11, 2, none⟩ = some (.int .i64 0) := ec BK11; have hcz11_3 : w13.cell? ⟨g11, 3, none⟩ = some (.int .i64 0) := ec BK11; have hfz11_0 := blk_frozen BK11.out 0; have hfz11_1 := blk_frozen BK11.out 1; have hfz11_2 := blk_frozen BK11.out 2; have hfz11_3 := blk_frozen BK11.out 3))
      (try simp only [Act.put, List.setIfInBounds_toArray, List.set_cons_zero, List.set_cons_succ])
      (generalize hW : ((((w13.setCell ⟨g11, 0, none⟩ (.int .i64 (Int.tmod z1 5))).setCell ⟨g11, 1, none⟩ (.int .i64 0)).setCell ⟨g11, 2, none⟩ (.int .i64 0)).setCell ⟨g11, 3, none⟩ (.int .i64 0)) = w15)
      have n6 := Aside0.mk (show w15.heap[g6]? = some (.cells #[.int .i64 0, .slice none 0 0] 28 (0, 0)) by rw [← hW]; refine blk_far ?_ N6.out _; refine blk_far ?_ N6.out _; refine blk_far ?_ N6.out _; refine blk_far ?_ N6.out _; exact BK6.out)
      have n8 := Aside0.mk (show w15.heap[g8]? = some (.cells #[.int .i64 z1] 3 (0, 0)) by rw [← hW]; refine blk_far ?_ N8.out _; refine blk_far ?_ N8.out _; refine blk_far ?_ N8.out _; refine blk_far ?_ N8.out _; exact BK8.out)
      have n10 := Aside0.mk (show w15.heap[g10]? = some (.cells #[.int .i64 (a0.size : Int), v] 28 (0, 0)) by rw [← hW]; refine blk_far ?_ N10.out _; refine blk_far ?_ N10.out _; refine blk_far ?_ N10.out _; refine blk_far ?_ N10.out _; exact BK10.out)
      have n11 := Aside0.mk (show w15.heap[g11]? = some (.cells #[.int .i64 (Int.tmod z1 5), .int .i64 0, .int .i64 0, .int .i64 0] 37 (0, 0)) by rw [← hW]; refine blk_put (cs := #[.int .i64 (Int.tmod z1 5), .int .i64 0, .int .i64 0, .int .i64 0]) ?_ 3 _ rfl; refine blk_put (cs := #[.int .i64 (Int.tmod z1 5), .int .i64 0, .int .i64 0, .int .i64 0]) ?_ 2 _ rfl; refine blk_put (cs := #[.int .i64 (Int.tmod z1 5), .int .i64 0, .int .i64 0, .int .i64 0]) ?_ 1 _ rfl; refine blk_put (cs := #[.int .i64 0, .int .i64 0, .int .i64 0, .int .i64 0]) ?_ 0 _ rfl; exact BK11.out)
      have nB := Aside0.mk (show Below w.heap.size w w15 by rw [← hW]; exact below_set (below_set (below_set (below_set HB.out GE11.out) GE11.out) GE11.out) GE11.out)
      have nO := Aside0.mk (show Kd.R k37 37 w15 w.heap.size (fun k => True ∧ k ≠ g11) v l by rw [← hW]; exact (Kd.R_far (p := ⟨g11, 3, none⟩) (Kd.R_far (p := ⟨g11, 2, none⟩) (Kd.R_far (p := ⟨g11, 1, none⟩) (Kd.R_far (p := ⟨g11, 0, none⟩) HO.out (fun _ hk => hk.2) _) (fun _ hk => hk.2) _) (fun _ hk => hk.2) _) (fun _ hk => hk.2) _))
      clear BK6 BK8 BK10 BK11 HO HB hW hcz11_0 hcz11_1 hcz11_2 hcz11_3 hfz11_0 hfz11_1 hfz11_2 hfz11_3 C1
      have BK6 := n6
      have BK8 := n8
      have BK10 := n10
      have BK11 := n11
      have HO := nO
      have HB := nB
      clear n6 n8 n10 n11 nO nB
      go_upto_region 10 with (first | ((with_reducible refine gd 46 ?_); refine Fv.goesV_ (some 46) rfl rfl Tryz.func41 (by kernel_rfl) rfl #[] rfl (by first | rfl | (go_simp; done)) (by first | rfl | (go_simp; done)) ?_; (refine (impl_MakePuzzle_next.calls z1 g8 _ BK8.out).mono ?_); rintro e w14 ⟨rfl, hw⟩; refine ⟨_, rfl, ?_⟩; rw [← HZ2.out] at hw; rw [← HZ2.out]; have n6 := Aside0.mk (show w14.heap[g6]? = some (.cells #[.int .i64 0, .slice none 0 0] 28 (0, 0)) by rw [hw]; exact blk_far BK6.out NB.out _); have n8 := Aside0.mk (show w14.heap[g8]? = some (.cells #[.int .i64 z2] 3 (0, 0)) by rw [hw]; exact blk_put (cs := #[.int .i64 z1]) BK8.out 0 _ rfl); have n10 := Aside0.mk (show w14.heap[g10]? = some (.cells #[.int .i64 (a0.size : Int), v] 28 (0, 0)) by rw [hw]; exact blk_far BK10.out NC8.out.symm _); have n11 := Aside0.mk (show w14.heap[g11]? = some (.cells #[.int .i64 (Int.tmod z1 5), .int .i64 0, .int .i64 0, .int .i64 0] 37 (0, 0)) by rw [hw]; exact blk_far BK11.out N8.out.symm _); have nB := Aside0.mk (show Below w.heap.size w w14 by rw [hw]; exact below_set HB.out GE8.out); have nO := Aside0.mk (show Kd.R k37 37 w14 w.heap.size (fun k => True ∧ k ≠ g11) v l by rw [hw]; exact Kd.R_mono (Kd.R_far (p := ⟨g8, 0, none⟩) (Kd.R_types HO.out BK8.out (by decide)) (fun _ hk => hk.2) _) (fun _ hk => hk.1)); clear BK6 BK8 BK10 BK11 HO HB hw; have BK6 := n6; have BK8 := n8; have BK10 := n10; have BK11 := n11; have HO := nO; have HB := nB; clear n6 n8 n10 n11 nO nB; have hcz11_0 : w14.cell? ⟨g11, 0, none⟩ = some (.int .i64 (Int.tmod z1 5)) := ec BK11; have hcz11_1 : w14.cell? ⟨g11, 1, none⟩ = some (.int .i64 0) := ec BK11; have hcz11_2 : w14.cell? ⟨g11, 2, none⟩ = some (.int .i64 0) := ec BK11; have hcz11_3 : w14.cell? ⟨g11, 3, none⟩ = some (.int .i64 0) := ec BK11; have hfz11_0 := blk_frozen BK11.out 0; have hfz11_1 := blk_frozen BK11.out 1; have hfz11_2 := blk_frozen BK11.out 2; have hfz11_3 := blk_frozen BK11.out 3))
      (try simp only [Act.put, List.setIfInBounds_toArray, List.set_cons_zero, List.set_cons_succ])
      have ATo := AT.out
      clear AT
      have c2 := HC2.out
      have c2b0 : ((a0.size : Int) == 0) = false := beq_eq_false_iff_ne.mpr HC2.out
      have c2b1 : ((a0.size : Int) != 0) = true := bne_iff_ne.mpr HC2.out
      by_cases c4 : Int.tmod z1 5 = 0
      ·skip
       have eA : A = (Int.tmod z2 (a0.size : Int)) := by rw [HAA.out]; unfold impl_MakePuzzle.ya; rw [if_pos c4]
       have eB : B = (Int.tmod (wrap64 (Int.tdiv z2 11)) 4) := by rw [HBB.out]; unfold impl_MakePuzzle.yb; rw [if_pos c4]
       rw [eA, eB] at ATo
       have AT := Aside0.mk ATo
       clear ATo eA eB HAA HBB
       have c4b0 : ((Int.tmod z1 5) == 0) = true := beq_iff_eq.mpr c4
       have c4b1 : ((Int.tmod z1 5) != 0) = false := bne_eq_false_iff_eq.mpr c4
       clear c4
       go_upto_region 14 with (fail)
       (try simp only [Act.put, List.setIfInBounds_toArray, List.set_cons_zero, List.set_cons_succ])
       (generalize hW : ((w14.setCell ⟨g11, 1, none⟩ (.int .i64 (Int.tmod z2 (a0.size : Int)))).setCell ⟨g11, 2, none⟩ (.int .i64 (Int.tmod (wrap64 (Int.tdiv z2 11)) 4))) = w20)
       have n6 := Aside0.mk (show w20.heap[g6]? = some (.cells #[.int .i64 0, .slice none 0 0] 28 (0, 0)) by rw [← hW]; refine blk_far ?_ N6.out _; refine blk_far ?_ N6.out _; exact BK6.out)
       have n8 := Aside0.mk (show w20.heap[g8]? = some (.cells #[.int .i64 z2] 3 (0, 0)) by rw [← hW]; refine blk_far ?_ N8.out _; refine blk_far ?_ N8.out _; exact BK8.out)
       have n10 := Aside0.mk (show w20.heap[g10]? = some (.cells #[.int .i64 (a0.size : Int), v] 28 (0, 0)) by rw [← hW]; refine blk_far ?_ N10.out _; refine blk_far ?_ N10.out _; exact BK10.out)
       have n11 := Aside0.mk (show w20.heap[g11]? = some (.cells #[.int .i64 (Int.tmod z1 5), .int .i64 (Int.tmod z2 (a0.size : Int)), .int .i64 (Int.tmod (wrap64 (Int.tdiv z2 11)) 4), .int .i64 0] 37 (0, 0)) by rw [← hW]; refine blk_put (cs := #[.int .i64 (Int.tmod z1 5), .int .i64 (Int.tmod z2 (a0.size : Int)), .int .i64 0, .int .i64 0]) ?_ 2 _ rfl; refine blk_put (cs := #[.int .i64 (Int.tmod z1 5), .int .i64 0, .int .i64 0, .int .i64 0]) ?_ 1 _ rfl; exact BK11.out)
       have nB := Aside0.mk (show Below w.heap.size w w20 by rw [← hW]; exact below_set (below_set (HB.out) GE11.out) GE11.out)
       have nO := Aside0.mk (show Kd.R k37 37 w20 w.heap.size (fun k => True ∧ k ≠ g11) v l by rw [← hW]; exact (Kd.R_far (p := ⟨g11, 2, none⟩) (Kd.R_far (p := ⟨g11, 1, none⟩) HO.out (fun _ hk => hk.2) _) (fun _ hk => hk.2) _))
       clear BK6 BK8 BK10 BK11 HO HB hW
       have BK6 := n6
       have BK8 := n8
       have BK10 := n10
       have BK11 := n11
       have HO := nO
       have HB := nB
       clear n6 n8 n10 n11 nO nB
       clear hcz11_0 hcz11_1 hcz11_2 hcz11_3 hfz11_0 hfz11_1 hfz11_2 hfz11_3
       have NE := Aside0.mk (show some g11 ≠ v.ownBlock from fun e => (HO.out.1 g11 e.symm).2 rfl)
       have nO := Aside0.mk (show Kd.R k37 37 w20.drew w.heap.size (fun _ => True) v l from Kd.R_drew (Kd.R_mono HO.out (fun _ _ => trivial)))
       have n6 := Aside0.mk (blk_drew BK6.out)
       have n8 := Aside0.mk (blk_drew BK8.out)
       have n10 := Aside0.mk (blk_drew BK10.out)
       have n11 := Aside0.mk (blk_drew BK11.out)
       have nB := Aside0.mk (below_drew1 HB.out)
       clear HO BK6 BK8 BK10 BK11 HB
       have HO := nO
       have HB := nB
       have BK6 := n6
       have BK8 := n8
       have BK10 := n10
       have BK11 := n11
       clear nO nB n6 n8 n10 n11
       refine start_ (n := 9) (S := fun w' => w'.cell? ⟨g10, 0, none⟩ = some (.int .i64 (a0.size : Int)) ∧ w'.cell? ⟨g10, 1, none⟩ = some v ∧ w'.cell? ⟨g11, 0, none⟩ = some (.int .i64 (Int.tmod z1 5)) ∧ w'.cell? ⟨g11, 1, none⟩ = some (.int .i64 (Int.tmod z2 (a0.size : Int))) ∧ w'.cell? ⟨g11, 2, none⟩ = some (.int .i64 (Int.tmod (wrap64 (Int.tdiv z2 11)) 4)) ∧ w'.cell? ⟨g11, 3, none⟩ = some (.int .i64 0)) (ds := [8]) (tb 9 0) (by kernel_rfl) rfl rfl ⟨ec BK10, ec BK10, ec BK11, ec BK11, ec BK11, ec BK11⟩ (fun hHeld => ?_); refine with_tabW impl_MakePuzzle.tab14 impl_MakePuzzle.bits14 (fun HT_ HW_ => ?_)
       generalize w20.drew = w21 at HO BK6 BK8 BK10 BK11 HB hHeld ⊢
       refine pu 0 (some 67) (tb 9 1) ?_
       refine pu 3 (some 70) (tb 9 9) ?_
       refine tk 1 (some 68) (tb 9 11) hHeld ?_
       refine tk 2 (some 69) (tb 9 15) hHeld ?_
       refine one_ (i := 4) (N := some 71) (tb 9 31) rfl rfl (one_of HT_.out (by kernel_rfl)) (by decide) (fun K hK => ?_)
       refine go1 Tryz.func42 #[.agg #[.int .i64 (Int.tmod z1 5), .int .i64 (Int.tmod z2 (a0.size : Int)), .int .i64 (Int.tmod (wrap64 (Int.tdiv z2 11)) 4), .int .i64 0], .string a0] ?_
       with_reducible refine (impl_Clue_told.calls k1 (Int.tmod z1 5) (Int.tmod z2 (a0.size : Int)) (Int.tmod (wrap64 (Int.tdiv z2 11)) 4) 0 a0 q1 q2 q3 q4 _ (HMM.out.below HB.out) AT.out).mono ?_
       rintro e w22 ⟨rfl, hb⟩
       refine ⟨_, rfl, ?_⟩
       have nO := Aside0.mk (Kd.R_below HO.out hb)
       have nB := Aside0.mk (below_step HB.out hb)
       have n6 := Aside0.mk (blk_below BK6.out hb)
       have n8 := Aside0.mk (blk_below BK8.out hb)
       have n10 := Aside0.mk (blk_below BK10.out hb)
       have n11 := Aside0.mk (blk_below BK11.out hb)
       clear HO HB BK6 BK8 BK10 BK11 hb
       have HO := nO
       have HB := nB
       have BK6 := n6
       have BK8 := n8
       have BK10 := n10
       have BK11 := n11
       clear nO nB n6 n8 n10 n11
       refine hK.out _ _ ⟨ec BK10, ec BK10, ec BK11, ec BK11, ec BK11, ec BK11⟩ (fun hHeld => ?_)
       clear hK K
       refine nm (some 71) ?_
       refine one_ (i := 5) (N := some 72) (tb 9 63) rfl rfl (one_of HT_.out (by kernel_rfl)) (by decide) (fun K hK => ?_)
       refine value_ (w1 := ?_) (v := ?_) (by rfl) rfl ?_ ?_
       rotate_left 2
       ·go_simp
        constructor
        ·rfl
        rfl
       refine hK.out _ _ ⟨(blk_cell (blk_alloc BK10.out _) 0).trans rfl, (blk_cell (blk_alloc BK10.out _) 1).trans rfl, (blk_cell (blk_alloc BK11.out _) 0).trans rfl, (blk_cell (blk_alloc BK11.out _) 1).trans rfl, (blk_cell (blk_alloc BK11.out _) 2).trans rfl, (blk_cell (blk_alloc BK11.out _) 3).trans rfl⟩ (fun hHeld => ?_)
       clear hK K
       refine nm (some 72) ?_
       refine one_ (i := 6) (N := some 73) (tb 9 127) rfl rfl (one_of HT_.out (by kernel_rfl)) (by decide) (fun K hK => ?_)
       refine Kd.R_append_step k37 (w0 := w) w.heap.size (by rfl) (.tmp 68) (.tmp 72) 26 37 (.agg #[(.int .i64 0), (.int .i64 0), (.int .i64 0), (.int .i64 0)]) 32 rfl Tryz.underlying26 info37 rfl (by decide) (by omega) v l (⟨q1, q2, q3, q4⟩ : S37) [.int .i64 q1, .int .i64 q2, .int .i64 q3, .int .i64 q4] (fun _ => True) (fun _ => False) rfl rfl ?aP (fun _ hk => hk.elim) ?aF ?aO ?aB ?aS ?aL ?_
       (case aP => exact k37_mkM _ _ _ (⟨q1, q2, q3, q4⟩ : S37))
       (case aB => exact bw)
       (case aF => exact (fun _ _ => trivial))
       (case aO => exact (by (with_reducible repeat (first | apply Kd.R_alloc | apply Kd.R_drewN | apply Kd.R_drew)); exact HO.out))
       (case aS => exact (below_size bw))
       (case aL => have := LM.out; omega)
       intro v2 w23 ho hb hg hat
       rw [← HY.out] at ho
       have n6 := Aside0.mk (blk_grown (g := g6) (o := .cells #[.int .i64 0, .slice none 0 0] 28 (0, 0)) (pk BK6) hg (Kd.R_ne HO.out BK6.out (by decide)))
       have n8 := Aside0.mk (blk_grown (g := g8) (o := .cells #[.int .i64 z2] 3 (0, 0)) (pk BK8) hg (Kd.R_ne HO.out BK8.out (by decide)))
       have n10 := Aside0.mk (blk_grown (g := g10) (o := .cells #[.int .i64 (a0.size : Int), v] 28 (0, 0)) (pk BK10) hg (Kd.R_ne HO.out BK10.out (by decide)))
       have n11 := Aside0.mk (blk_grown (g := g11) (o := .cells #[.int .i64 (Int.tmod z1 5), .int .i64 (Int.tmod z2 (a0.size : Int)), .int .i64 (Int.tmod (wrap64 (Int.tdiv z2 11)) 4), .int .i64 0] 37 (0, 0)) (pk BK11) hg NE.out)
       have nB := Aside0.mk hb
       have nO := Aside0.mk ho
       clear HO HB BK6 BK8 BK10 BK11 ho hb hg hat
       have HO := nO
       have HB := nB
       have BK6 := n6
       have BK8 := n8
       have BK10 := n10
       have BK11 := n11
       clear nO nB n6 n8 n10 n11
       obtain ⟨Ao24, co24, eo24⟩ := Kd.R_slice HO.out
       subst eo24
       refine hK.out _ _ ⟨ec BK10, ec BK10, ec BK11, ec BK11, ec BK11, ec BK11⟩ (fun hHeld => ?_)
       clear hK K
       refine nm (some 73) ?_
       refine pu 7 (some 74) (tb 9 255) ?_
       refine last_ (i := 8) (N := none) (tb 9 511) rfl rfl (one_of HT_.out (by kernel_rfl)) (by decide) (fun K hK => ?_)
       have hs25 : w23.cell? ⟨g10, 1, none⟩ = some v := ec BK10
       have hfs25 := blk_frozen BK10.out 1
       refine skip_ (w1 := ?_) (by rfl) rfl ?_ ?_
       rotate_left
       ·go_simp
        rfl
       refine hK.out _ _ ?_
       clear hK K
       refine done_ (done_of HT_.out (by kernel_rfl)) ?_
       try go_wp2
       go_roundg k1
       case measure => have := HK1.out; omega
       case rel => exact ⟨(wrap64 (i + 1)), z2, y, (.slice Ao24 y.length co24), (rs), H', ⟨by have := HK1.out; omega⟩, ⟨by (with_reducible repeat (first | apply Kd.R_alloc | apply Kd.R_drewN | apply Kd.R_drew)); exact Kd.R_mono (Kd.R_far (p := ⟨g10, 1, none⟩) (Kd.R_types HO.out BK10.out (by decide)) (fun _ hk => hk.2) (.slice Ao24 y.length co24)) (fun _ hk => trivial)⟩, ⟨by (with_reducible repeat (first | apply b1 | apply b2 | apply b3)); refine blk_far ?_ NC6.out _; (with_reducible repeat (first | apply b1 | apply b2 | apply b3)); exact BK6.out⟩, ⟨by (with_reducible repeat (first | apply b1 | apply b2 | apply b3)); refine blk_far ?_ NC8.out _; (with_reducible repeat (first | apply b1 | apply b2 | apply b3)); exact BK8.out⟩, ⟨pz BK10⟩, ⟨bw⟩⟩
      by_cases c5 : Int.tmod z1 5 = 4
      ·skip
       have eA : A = (Int.tmod z2 (a0.size : Int)) := by rw [HAA.out]; unfold impl_MakePuzzle.ya; rw [if_neg c4, if_pos c5]
       have eB : B = 0 := by rw [HBB.out]; unfold impl_MakePuzzle.yb; rw [if_neg c4]
       rw [eA, eB] at ATo
       have AT := Aside0.mk ATo
       clear ATo eA eB HAA HBB
       have c4b0 : ((Int.tmod z1 5) == 0) = false := beq_eq_false_iff_ne.mpr c4
       have c4b1 : ((Int.tmod z1 5) != 0) = true := bne_iff_ne.mpr c4
       clear c4
       have c5b0 : ((Int.tmod z1 5) == 4) = true := beq_iff_eq.mpr c5
       have c5b1 : ((Int.tmod z1 5) != 4) = false := bne_eq_false_iff_eq.mpr c5
       clear c5
       go_upto_region 14 with (fail)
       (try simp only [Act.put, List.setIfInBounds_toArray, List.set_cons_zero, List.set_cons_succ])
       (generalize hW : (w14.setCell ⟨g11, 1, none⟩ (.int .i64 (Int.tmod z2 (a0.size : Int)))) = w20)
       have n6 := Aside0.mk (show w20.heap[g6]? = some (.cells #[.int .i64 0, .slice none 0 0] 28 (0, 0)) by rw [← hW]; refine blk_far ?_ N6.out _; exact BK6.out)
       have n8 := Aside0.mk (show w20.heap[g8]? = some (.cells #[.int .i64 z2] 3 (0, 0)) by rw [← hW]; refine blk_far ?_ N8.out _; exact BK8.out)
       have n10 := Aside0.mk (show w20.heap[g10]? = some (.cells #[.int .i64 (a0.size : Int), v] 28 (0, 0)) by rw [← hW]; refine blk_far ?_ N10.out _; exact BK10.out)
       have n11 := Aside0.mk (show w20.heap[g11]? = some (.cells #[.int .i64 (Int.tmod z1 5), .int .i64 (Int.tmod z2 (a0.size : Int)), .int .i64 0, .int .i64 0] 37 (0, 0)) by rw [← hW]; refine blk_put (cs := #[.int .i64 (Int.tmod z1 5), .int .i64 0, .int .i64 0, .int .i64 0]) ?_ 1 _ rfl; exact BK11.out)
       have nB := Aside0.mk (show Below w.heap.size w w20 by rw [← hW]; exact below_set (HB.out) GE11.out)
       have nO := Aside0.mk (show Kd.R k37 37 w20 w.heap.size (fun k => True ∧ k ≠ g11) v l by rw [← hW]; exact (Kd.R_far (p := ⟨g11, 1, none⟩) HO.out (fun _ hk => hk.2) _))
       clear BK6 BK8 BK10 BK11 HO HB hW
       have BK6 := n6
       have BK8 := n8
       have BK10 := n10
       have BK11 := n11
       have HO := nO
       have HB := nB
       clear n6 n8 n10 n11 nO nB
       clear hcz11_0 hcz11_1 hcz11_2 hcz11_3 hfz11_0 hfz11_1 hfz11_2 hfz11_3
       have NE := Aside0.mk (show some g11 ≠ v.ownBlock from fun e => (HO.out.1 g11 e.symm).2 rfl)
       have nO := Aside0.mk (show Kd.R k37 37 w20.drew w.heap.size (fun _ => True) v l from Kd.R_drew (Kd.R_mono HO.out (fun _ _ => trivial)))
       have n6 := Aside0.mk (blk_drew BK6.out)
       have n8 := Aside0.mk (blk_drew BK8.out)
       have n10 := Aside0.mk (blk_drew BK10.out)
       have n11 := Aside0.mk (blk_drew BK11.out)
       have nB := Aside0.mk (below_drew1 HB.out)
       clear HO BK6 BK8 BK10 BK11 HB
       have HO := nO
       have HB := nB
       have BK6 := n6
       have BK8 := n8
       have BK10 := n10
       have BK11 := n11
       clear nO nB n6 n8 n10 n11
       refine start_ (n := 9) (S := fun w' => w'.cell? ⟨g10, 0, none⟩ = some (.int .i64 (a0.size : Int)) ∧ w'.cell? ⟨g10, 1, none⟩ = some v ∧ w'.cell? ⟨g11, 0, none⟩ = some (.int .i64 (Int.tmod z1 5)) ∧ w'.cell? ⟨g11, 1, none⟩ = some (.int .i64 (Int.tmod z2 (a0.size : Int))) ∧ w'.cell? ⟨g11, 2, none⟩ = some (.int .i64 0) ∧ w'.cell? ⟨g11, 3, none⟩ = some (.int .i64 0)) (ds := [8]) (tb 9 0) (by kernel_rfl) rfl rfl ⟨ec BK10, ec BK10, ec BK11, ec BK11, ec BK11, ec BK11⟩ (fun hHeld => ?_); refine with_tabW impl_MakePuzzle.tab14 impl_MakePuzzle.bits14 (fun HT_ HW_ => ?_)
       generalize w20.drew = w21 at HO BK6 BK8 BK10 BK11 HB hHeld ⊢
       refine pu 0 (some 67) (tb 9 1) ?_
       refine pu 3 (some 70) (tb 9 9) ?_
       refine tk 1 (some 68) (tb 9 11) hHeld ?_
       refine tk 2 (some 69) (tb 9 15) hHeld ?_
       refine one_ (i := 4) (N := some 71) (tb 9 31) rfl rfl (one_of HT_.out (by kernel_rfl)) (by decide) (fun K hK => ?_)
       refine go1 Tryz.func42 #[.agg #[.int .i64 (Int.tmod z1 5), .int .i64 (Int.tmod z2 (a0.size : Int)), .int .i64 0, .int .i64 0], .string a0] ?_
       with_reducible refine (impl_Clue_told.calls k1 (Int.tmod z1 5) (Int.tmod z2 (a0.size : Int)) 0 0 a0 q1 q2 q3 q4 _ (HMM.out.below HB.out) AT.out).mono ?_
       rintro e w22 ⟨rfl, hb⟩
       refine ⟨_, rfl, ?_⟩
       have nO := Aside0.mk (Kd.R_below HO.out hb)
       have nB := Aside0.mk (below_step HB.out hb)
       have n6 := Aside0.mk (blk_below BK6.out hb)
       have n8 := Aside0.mk (blk_below BK8.out hb)
       have n10 := Aside0.mk (blk_below BK10.out hb)
       have n11 := Aside0.mk (blk_below BK11.out hb)
       clear HO HB BK6 BK8 BK10 BK11 hb
       have HO := nO
       have HB := nB
       have BK6 := n6
       have BK8 := n8
       have BK10 := n10
       have BK11 := n11
       clear nO nB n6 n8 n10 n11
       refine hK.out _ _ ⟨ec BK10, ec BK10, ec BK11, ec BK11, ec BK11, ec BK11⟩ (fun hHeld => ?_)
       clear hK K
       refine nm (some 71) ?_
       refine one_ (i := 5) (N := some 72) (tb 9 63) rfl rfl (one_of HT_.out (by kernel_rfl)) (by decide) (fun K hK => ?_)
       refine value_ (w1 := ?_) (v := ?_) (by rfl) rfl ?_ ?_
       rotate_left 2
       ·go_simp
        constructor
        ·rfl
        rfl
       refine hK.out _ _ ⟨(blk_cell (blk_alloc BK10.out _) 0).trans rfl, (blk_cell (blk_alloc BK10.out _) 1).trans rfl, (blk_cell (blk_alloc BK11.out _) 0).trans rfl, (blk_cell (blk_alloc BK11.out _) 1).trans rfl, (blk_cell (blk_alloc BK11.out _) 2).trans rfl, (blk_cell (blk_alloc BK11.out _) 3).trans rfl⟩ (fun hHeld => ?_)
       clear hK K
       refine nm (some 72) ?_
       refine one_ (i := 6) (N := some 73) (tb 9 127) rfl rfl (one_of HT_.out (by kernel_rfl)) (by decide) (fun K hK => ?_)
       refine Kd.R_append_step k37 (w0 := w) w.heap.size (by rfl) (.tmp 68) (.tmp 72) 26 37 (.agg #[(.int .i64 0), (.int .i64 0), (.int .i64 0), (.int .i64 0)]) 32 rfl Tryz.underlying26 info37 rfl (by decide) (by omega) v l (⟨q1, q2, q3, q4⟩ : S37) [.int .i64 q1, .int .i64 q2, .int .i64 q3, .int .i64 q4] (fun _ => True) (fun _ => False) rfl rfl ?aP (fun _ hk => hk.elim) ?aF ?aO ?aB ?aS ?aL ?_
       (case aP => exact k37_mkM _ _ _ (⟨q1, q2, q3, q4⟩ : S37))
       (case aB => exact bw)
       (case aF => exact (fun _ _ => trivial))
       (case aO => exact (by (with_reducible repeat (first | apply Kd.R_alloc | apply Kd.R_drewN | apply Kd.R_drew)); exact HO.out))
       (case aS => exact (below_size bw))
       (case aL => have := LM.out; omega)
       intro v2 w23 ho hb hg hat
       rw [← HY.out] at ho
       have n6 := Aside0.mk (blk_grown (g := g6) (o := .cells #[.int .i64 0, .slice none 0 0] 28 (0, 0)) (pk BK6) hg (Kd.R_ne HO.out BK6.out (by decide)))
       have n8 := Aside0.mk (blk_grown (g := g8) (o := .cells #[.int .i64 z2] 3 (0, 0)) (pk BK8) hg (Kd.R_ne HO.out BK8.out (by decide)))
       have n10 := Aside0.mk (blk_grown (g := g10) (o := .cells #[.int .i64 (a0.size : Int), v] 28 (0, 0)) (pk BK10) hg (Kd.R_ne HO.out BK10.out (by decide)))
       have n11 := Aside0.mk (blk_grown (g := g11) (o := .cells #[.int .i64 (Int.tmod z1 5), .int .i64 (Int.tmod z2 (a0.size : Int)), .int .i64 0, .int .i64 0] 37 (0, 0)) (pk BK11) hg NE.out)
       have nB := Aside0.mk hb
       have nO := Aside0.mk ho
       clear HO HB BK6 BK8 BK10 BK11 ho hb hg hat
       have HO := nO
       have HB := nB
       have BK6 := n6
       have BK8 := n8
       have BK10 := n10
       have BK11 := n11
       clear nO nB n6 n8 n10 n11
       obtain ⟨Ao24, co24, eo24⟩ := Kd.R_slice HO.out
       subst eo24
       refine hK.out _ _ ⟨ec BK10, ec BK10, ec BK11, ec BK11, ec BK11, ec BK11⟩ (fun hHeld => ?_)
       clear hK K
       refine nm (some 73) ?_
       refine pu 7 (some 74) (tb 9 255) ?_
       refine last_ (i := 8) (N := none) (tb 9 511) rfl rfl (one_of HT_.out (by kernel_rfl)) (by decide) (fun K hK => ?_)
       have hs25 : w23.cell? ⟨g10, 1, none⟩ = some v := ec BK10
       have hfs25 := blk_frozen BK10.out 1
       refine skip_ (w1 := ?_) (by rfl) rfl ?_ ?_
       rotate_left
       ·go_simp
        rfl
       refine hK.out _ _ ?_
       clear hK K
       refine done_ (done_of HT_.out (by kernel_rfl)) ?_
       try go_wp2
       go_roundg k1
       case measure => have := HK1.out; omega
       case rel => exact ⟨(wrap64 (i + 1)), z2, y, (.slice Ao24 y.length co24), (rs), H', ⟨by have := HK1.out; omega⟩, ⟨by (with_reducible repeat (first | apply Kd.R_alloc | apply Kd.R_drewN | apply Kd.R_drew)); exact Kd.R_mono (Kd.R_far (p := ⟨g10, 1, none⟩) (Kd.R_types HO.out BK10.out (by decide)) (fun _ hk => hk.2) (.slice Ao24 y.length co24)) (fun _ hk => trivial)⟩, ⟨by (with_reducible repeat (first | apply b1 | apply b2 | apply b3)); refine blk_far ?_ NC6.out _; (with_reducible repeat (first | apply b1 | apply b2 | apply b3)); exact BK6.out⟩, ⟨by (with_reducible repeat (first | apply b1 | apply b2 | apply b3)); refine blk_far ?_ NC8.out _; (with_reducible repeat (first | apply b1 | apply b2 | apply b3)); exact BK8.out⟩, ⟨pz BK10⟩, ⟨bw⟩⟩
      ·skip
       have eA : A = 0 := by rw [HAA.out]; unfold impl_MakePuzzle.ya; rw [if_neg c4, if_neg c5]
       have eB : B = 0 := by rw [HBB.out]; unfold impl_MakePuzzle.yb; rw [if_neg c4]
       rw [eA, eB] at ATo
       have AT := Aside0.mk ATo
       clear ATo eA eB HAA HBB
       have c4b0 : ((Int.tmod z1 5) == 0) = false := beq_eq_false_iff_ne.mpr c4
       have c4b1 : ((Int.tmod z1 5) != 0) = true := bne_iff_ne.mpr c4
       clear c4
       have c5b0 : ((Int.tmod z1 5) == 4) = false := beq_eq_false_iff_ne.mpr c5
       have c5b1 : ((Int.tmod z1 5) != 4) = true := bne_iff_ne.mpr c5
       clear c5
       go_upto_region 14 with (fail)
       (try simp only [Act.put, List.setIfInBounds_toArray, List.set_cons_zero, List.set_cons_succ])
       clear hcz11_0 hcz11_1 hcz11_2 hcz11_3 hfz11_0 hfz11_1 hfz11_2 hfz11_3
       have NE := Aside0.mk (show some g11 ≠ v.ownBlock from fun e => (HO.out.1 g11 e.symm).2 rfl)
       have nO := Aside0.mk (show Kd.R k37 37 w14.drew w.heap.size (fun _ => True) v l from Kd.R_drew (Kd.R_mono HO.out (fun _ _ => trivial)))
       have n6 := Aside0.mk (blk_drew BK6.out)
       have n8 := Aside0.mk (blk_drew BK8.out)
       have n10 := Aside0.mk (blk_drew BK10.out)
       have n11 := Aside0.mk (blk_drew BK11.out)
       have nB := Aside0.mk (below_drew1 HB.out)
       clear HO BK6 BK8 BK10 BK11 HB
       have HO := nO
       have HB := nB
       have BK6 := n6
       have BK8 := n8
       have BK10 := n10
       have BK11 := n11
       clear nO nB n6 n8 n10 n11
       refine start_ (n := 9) (S := fun w' => w'.cell? ⟨g10, 0, none⟩ = some (.int .i64 (a0.size : Int)) ∧ w'.cell? ⟨g10, 1, none⟩ = some v ∧ w'.cell? ⟨g11, 0, none⟩ = some (.int .i64 (Int.tmod z1 5)) ∧ w'.cell? ⟨g11, 1, none⟩ = some (.int .i64 0) ∧ w'.cell? ⟨g11, 2, none⟩ = some (.int .i64 0) ∧ w'.cell? ⟨g11, 3, none⟩ = some (.int .i64 0)) (ds := [8]) (tb 9 0) (by kernel_rfl) rfl rfl ⟨ec BK10, ec BK10, ec BK11, ec BK11, ec BK11, ec BK11⟩ (fun hHeld => ?_); refine with_tabW impl_MakePuzzle.tab14 impl_MakePuzzle.bits14 (fun HT_ HW_ => ?_)
       generalize w14.drew = w21 at HO BK6 BK8 BK10 BK11 HB hHeld ⊢
       refine pu 0 (some 67) (tb 9 1) ?_
       refine pu 3 (some 70) (tb 9 9) ?_
       refine tk 1 (some 68) (tb 9 11) hHeld ?_
       refine tk 2 (some 69) (tb 9 15) hHeld ?_
       refine one_ (i := 4) (N := some 71) (tb 9 31) rfl rfl (one_of HT_.out (by kernel_rfl)) (by decide) (fun K hK => ?_)
       refine go1 Tryz.func42 #[.agg #[.int .i64 (Int.tmod z1 5), .int .i64 0, .int .i64 0, .int .i64 0], .string a0] ?_
       with_reducible refine (impl_Clue_told.calls k1 (Int.tmod z1 5) 0 0 0 a0 q1 q2 q3 q4 _ (HMM.out.below HB.out) AT.out).mono ?_
       rintro e w22 ⟨rfl, hb⟩
       refine ⟨_, rfl, ?_⟩
       have nO := Aside0.mk (Kd.R_below HO.out hb)
       have nB := Aside0.mk (below_step HB.out hb)
       have n6 := Aside0.mk (blk_below BK6.out hb)
       have n8 := Aside0.mk (blk_below BK8.out hb)
       have n10 := Aside0.mk (blk_below BK10.out hb)
       have n11 := Aside0.mk (blk_below BK11.out hb)
       clear HO HB BK6 BK8 BK10 BK11 hb
       have HO := nO
       have HB := nB
       have BK6 := n6
       have BK8 := n8
       have BK10 := n10
       have BK11 := n11
       clear nO nB n6 n8 n10 n11
       refine hK.out _ _ ⟨ec BK10, ec BK10, ec BK11, ec BK11, ec BK11, ec BK11⟩ (fun hHeld => ?_)
       clear hK K
       refine nm (some 71) ?_
       refine one_ (i := 5) (N := some 72) (tb 9 63) rfl rfl (one_of HT_.out (by kernel_rfl)) (by decide) (fun K hK => ?_)
       refine value_ (w1 := ?_) (v := ?_) (by rfl) rfl ?_ ?_
       rotate_left 2
       ·go_simp
        constructor
        ·rfl
        rfl
       refine hK.out _ _ ⟨(blk_cell (blk_alloc BK10.out _) 0).trans rfl, (blk_cell (blk_alloc BK10.out _) 1).trans rfl, (blk_cell (blk_alloc BK11.out _) 0).trans rfl, (blk_cell (blk_alloc BK11.out _) 1).trans rfl, (blk_cell (blk_alloc BK11.out _) 2).trans rfl, (blk_cell (blk_alloc BK11.out _) 3).trans rfl⟩ (fun hHeld => ?_)
       clear hK K
       refine nm (some 72) ?_
       refine one_ (i := 6) (N := some 73) (tb 9 127) rfl rfl (one_of HT_.out (by kernel_rfl)) (by decide) (fun K hK => ?_)
       refine Kd.R_append_step k37 (w0 := w) w.heap.size (by rfl) (.tmp 68) (.tmp 72) 26 37 (.agg #[(.int .i64 0), (.int .i64 0), (.int .i64 0), (.int .i64 0)]) 32 rfl Tryz.underlying26 info37 rfl (by decide) (by omega) v l (⟨q1, q2, q3, q4⟩ : S37) [.int .i64 q1, .int .i64 q2, .int .i64 q3, .int .i64 q4] (fun _ => True) (fun _ => False) rfl rfl ?aP (fun _ hk => hk.elim) ?aF ?aO ?aB ?aS ?aL ?_
       (case aP => exact k37_mkM _ _ _ (⟨q1, q2, q3, q4⟩ : S37))
       (case aB => exact bw)
       (case aF => exact (fun _ _ => trivial))
       (case aO => exact (by (with_reducible repeat (first | apply Kd.R_alloc | apply Kd.R_drewN | apply Kd.R_drew)); exact HO.out))
       (case aS => exact (below_size bw))
       (case aL => have := LM.out; omega)
       intro v2 w23 ho hb hg hat
       rw [← HY.out] at ho
       have n6 := Aside0.mk (blk_grown (g := g6) (o := .cells #[.int .i64 0, .slice none 0 0] 28 (0, 0)) (pk BK6) hg (Kd.R_ne HO.out BK6.out (by decide)))
       have n8 := Aside0.mk (blk_grown (g := g8) (o := .cells #[.int .i64 z2] 3 (0, 0)) (pk BK8) hg (Kd.R_ne HO.out BK8.out (by decide)))
       have n10 := Aside0.mk (blk_grown (g := g10) (o := .cells #[.int .i64 (a0.size : Int), v] 28 (0, 0)) (pk BK10) hg (Kd.R_ne HO.out BK10.out (by decide)))
       have n11 := Aside0.mk (blk_grown (g := g11) (o := .cells #[.int .i64 (Int.tmod z1 5), .int .i64 0, .int .i64 0, .int .i64 0] 37 (0, 0)) (pk BK11) hg NE.out)
       have nB := Aside0.mk hb
       have nO := Aside0.mk ho
       clear HO HB BK6 BK8 BK10 BK11 ho hb hg hat
       have HO := nO
       have HB := nB
       have BK6 := n6
       have BK8 := n8
       have BK10 := n10
       have BK11 := n11
       clear nO nB n6 n8 n10 n11
       obtain ⟨Ao24, co24, eo24⟩ := Kd.R_slice HO.out
       subst eo24
       refine hK.out _ _ ⟨ec BK10, ec BK10, ec BK11, ec BK11, ec BK11, ec BK11⟩ (fun hHeld => ?_)
       clear hK K
       refine nm (some 73) ?_
       refine pu 7 (some 74) (tb 9 255) ?_
       refine last_ (i := 8) (N := none) (tb 9 511) rfl rfl (one_of HT_.out (by kernel_rfl)) (by decide) (fun K hK => ?_)
       have hs25 : w23.cell? ⟨g10, 1, none⟩ = some v := ec BK10
       have hfs25 := blk_frozen BK10.out 1
       refine skip_ (w1 := ?_) (by rfl) rfl ?_ ?_
       rotate_left
       ·go_simp
        rfl
       refine hK.out _ _ ?_
       clear hK K
       refine done_ (done_of HT_.out (by kernel_rfl)) ?_
       try go_wp2
       go_roundg k1
       case measure => have := HK1.out; omega
       case rel => exact ⟨(wrap64 (i + 1)), z2, y, (.slice Ao24 y.length co24), (rs), H', ⟨by have := HK1.out; omega⟩, ⟨by (with_reducible repeat (first | apply Kd.R_alloc | apply Kd.R_drewN | apply Kd.R_drew)); exact Kd.R_mono (Kd.R_far (p := ⟨g10, 1, none⟩) (Kd.R_types HO.out BK10.out (by decide)) (fun _ hk => hk.2) (.slice Ao24 y.length co24)) (fun _ hk => trivial)⟩, ⟨by (with_reducible repeat (first | apply b1 | apply b2 | apply b3)); refine blk_far ?_ NC6.out _; (with_reducible repeat (first | apply b1 | apply b2 | apply b3)); exact BK6.out⟩, ⟨by (with_reducible repeat (first | apply b1 | apply b2 | apply b3)); refine blk_far ?_ NC8.out _; (with_reducible repeat (first | apply b1 | apply b2 | apply b3)); exact BK8.out⟩, ⟨pz BK10⟩, ⟨bw⟩⟩
     rw [if_neg c3] at H
     cases H
    rw [if_neg c1] at H
    have c1b : decide (i < a1) = false := decide_eq_false c1
    clear c1
    simp only [Option.some.injEq, Prod.mk.injEq] at H
    obtain ⟨rfl, rfl, rfl⟩ := H
    have hcz27_0 : wr.cell? ⟨g10, 0, none⟩ = some (.int .i64 (a0.size : Int)) := ec BK10
    have hcz27_1 : wr.cell? ⟨g10, 1, none⟩ = some v := ec BK10
    have hcz28_0 : wr.cell? ⟨g6, 0, none⟩ = some (.int .i64 0) := ec BK6
    have hcz28_1 : wr.cell? ⟨g6, 1, none⟩ = some (.slice none 0 0) := ec BK6
    have hfz28_0 := blk_frozen BK6.out 0
    have hfz28_1 := blk_frozen BK6.out 1
    have hn1 := NC6.out
    have hn2 := NC6.out.symm
    obtain ⟨Ao29, co29, eo29⟩ := Kd.R_slice HO.out
    subst eo29
    go_wp2
    refine bodyPost_ret (results_ct rfl _ _ g6 28 #[.int .i64 (a0.size : Int), .slice Ao29 l.length co29] (0, 0) _ rfl (pz BK6) Tryz.underlying28 rfl (by kernel_rfl)) rfl ?_
    exact ⟨_, rfl, by (with_reducible repeat (first | apply Kd.R_alloc | apply Kd.R_drewN | apply Kd.R_drew)); exact Kd.R_mono (Kd.R_far (p := ⟨g6, 1, none⟩) (Kd.R_far (p := ⟨g6, 0, none⟩) (Kd.R_types HO.out BK6.out (by decide)) (fun _ hk => hk.2) (.int .i64 (a0.size : Int))) (fun _ hk => hk.2) (.slice Ao29 l.length co29)) (fun _ hk => trivial), bw⟩

end Go.Proofs.YthjbmojacgkdcaaGreatDoor.PFnRowsHidden
