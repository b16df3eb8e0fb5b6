-- Laid by xprint, a program of this session that runs over the kit's print.
import Derived.Test.YthjbmojacgkdcaaGreatDoorPFnRowsHiddenx9
namespace Go.Proofs.YthjbmojacgkdcaaGreatDoor.PFnRowsHidden
open Go.RowKit Go.Proofs.YthjbmojacgkdcaaGreatDoorW.PrintWords Go.Proofs.YthjbmojacgkdcaaGreatDoorW.PrintLast Go.Proofs.YthjbmojacgkdcaaGreatDoorW.PrintMore Go.Proofs.YthjbmojacgkdcaaGreatDoor.Sq
attribute [local go_sem] max2_int min2_int max_two min_two max_three min_three max_four min_four   -- for this text's walks alone
set_option linter.unusedVariables false
set_option linter.unusedSimpArgs false

/-! ### spec_l1Cur_puzzle: function 56 -/
def spec_l1Cur_puzzle.l0 : Nat → List Int → Int → Int → Int → List (S37) → Option (Int × (List (S37)) × Int × Int)
  | 0, _, _, _, _, _ => none
  | k + 1, x1000, x1001, x1002, x326000, x326001 => (spec_l1Cur_pick.f x1000 x1001 x1002 2).bind fun bt344 => (if (x326001.length : Int) < (wrap64 (6 + bt344.1)) then (if x326001.length < 4398046511104 then (spec_l1Cur_puzzle.l0 k x1000 bt344.2.1 bt344.2.2 x326000 (x326001 ++ [(⟨2, 0, 0, 0⟩ : S37)])) else (none)) else (some (x326000, x326001, bt344.2.1, bt344.2.2)))
def spec_l1Cur_puzzle.f (k : Nat) (s0_0 : List Int) (s0_1 : Int) (s0_2 : Int) : Option (Int × (List (S37)) × Int × Int) := (spec_l1Cur_surePuzzle.f k s0_0 s0_1 s0_2 5).bind fun bt319 => ((spec_l1Cur_pick.f s0_0 bt319.2.2.1 bt319.2.2.2 12).bind fun bt326 => (if bt326.1 = 0 then ((spec_l1Cur_among.f s0_0 bt326.2.1 bt326.2.2 (([(-1), 0, 1, 8, 9, 4611686018427387904] : List Int))).bind fun bt332 => (some (bt332.1, bt319.2.1, bt332.2.1, bt332.2.2))) else (if bt326.1 = 1 then ((spec_l1Cur_clue.f k s0_0 bt326.2.1 bt326.2.2).bind fun bt335 => (if bt319.2.1.length < 4398046511104 then (some (bt319.1, (bt319.2.1 ++ [(⟨bt335.1, bt335.2.1, bt335.2.2.1, bt335.2.2.2.1⟩ : S37)]), bt335.2.2.2.2.1, bt335.2.2.2.2.2)) else (none))) else (if bt326.1 = 2 then (spec_l1Cur_puzzle.l0 k s0_0 bt326.2.1 bt326.2.2 bt319.1 bt319.2.1) else (some (bt319.1, bt319.2.1, bt326.2.1, bt326.2.2))))))
theorem spec_l1Cur_puzzle.mono_l : ∀ k, (∀ y0 y1 y2 y3 y4, LeO (spec_l1Cur_puzzle.l0 k y0 y1 y2 y3 y4) (spec_l1Cur_puzzle.l0 (k + 1) y0 y1 y2 y3 y4))
  | 0 => fun _ _ _ _ _ r h => by simp [spec_l1Cur_puzzle.l0] at h
  | k + 1 => by
    have ih0 := spec_l1Cur_puzzle.mono_l k
    · intro y0 y1 y2 y3 y4
      unfold spec_l1Cur_puzzle.l0
      repeat' first
      | (with_reducible exact ih0 _ _ _ _ _)
      | (with_reducible exact spec_l1Cur_clue.mono _ _ _ _)
      | (with_reducible exact spec_l1Cur_surePuzzle.mono _ _ _ _ _)
      | (with_reducible exact LeO.refl _)
      | (with_reducible exact LeO.none _)
      | (with_reducible refine LeO.ite ?_ ?_)
      | (with_reducible refine LeO.bind ?_ (fun _ => ?_))
      | exact ih0 _ _ _ _ _
      | exact spec_l1Cur_clue.mono _ _ _ _
      | exact spec_l1Cur_surePuzzle.mono _ _ _ _ _
      | exact LeO.none _
      | refine LeO.ite ?_ ?_
      | refine LeO.bind ?_ (fun _ => ?_)
theorem spec_l1Cur_puzzle.mono : ∀ a0 a1 a2 k, LeO (spec_l1Cur_puzzle.f k a0 a1 a2) (spec_l1Cur_puzzle.f (k + 1) a0 a1 a2) := by
  intro a0 a1 a2 k
  have ih0 := spec_l1Cur_puzzle.mono_l k
  unfold spec_l1Cur_puzzle.f
  repeat' first
      | (with_reducible exact ih0 _ _ _ _ _)
      | (with_reducible exact spec_l1Cur_clue.mono _ _ _ _)
      | (with_reducible exact spec_l1Cur_surePuzzle.mono _ _ _ _ _)
      | (with_reducible exact LeO.refl _)
      | (with_reducible exact LeO.none _)
      | (with_reducible refine LeO.ite ?_ ?_)
      | (with_reducible refine LeO.bind ?_ (fun _ => ?_))
      | exact ih0 _ _ _ _ _
      | exact spec_l1Cur_clue.mono _ _ _ _
      | exact spec_l1Cur_surePuzzle.mono _ _ _ _ _
      | exact LeO.none _
      | refine LeO.ite ?_ ?_
      | refine LeO.bind ?_ (fun _ => ?_)
def spec_l1Cur_puzzle.T6 : Bool × List (List Nat × List Nat) := (true, [([], []), ([0], [0]), ([], []), ([2], [2]), ([3], [3]), ([1, 4, 3], [1, 4]), ([0, 1, 2, 3, 4, 5], []), ([6, 5, 5, 0, 1, 2, 3, 4, 5], [5, 6])])
def spec_l1Cur_puzzle.B6 : List Nat := [0, 1, 0, 4, 12, 31, 63, 127]
theorem spec_l1Cur_puzzle.tab6 : rtab .any (opsOf Tryz.f56 6) = spec_l1Cur_puzzle.T6 := by kernel_rfl
theorem spec_l1Cur_puzzle.bits6 : waitsOk spec_l1Cur_puzzle.T6.2 spec_l1Cur_puzzle.B6 = true := by kernel_rfl
set_option maxHeartbeats 8000000 in
set_option maxRecDepth 100000 in
theorem spec_l1Cur_puzzle.calls (k : Nat) (g : Nat) (s0_0 : List Int) (s0_1 : Int) (s0_2 : Int) (r1 : Int) (r2 : List (S37)) (r3 : Int) (r4 : Int) (w0 w : World) (hI : IsS66 w0 w g s0_0 s0_1 s0_2) (hB : Below w0.heap.size w0 w) (h : spec_l1Cur_puzzle.f k s0_0 s0_1 s0_2 = some (r1, r2, r3, r4)) :
  Calls Tryz.prog 56 #[.pointer (some ⟨g, 0, none⟩)] w fun e w' => ∃ v1_ : Value, e = .returned (.agg #[.int .i64 r1, v1_]) ∧ Kd.R k37 37 w' w.heap.size (fun _ => True) v1_ r2 ∧ IsS66 w0 w' g s0_0 r3 r4 ∧ Below w0.heap.size w0 w' ∧ KeepBut w w' g none := by
 have hu28 := Tryz.underlying28
 have hu37 := Tryz.underlying37
 have HI0 := Aside0.mk hI
 have HK := Aside0.mk (KeepBut.refl w g none)
 have HL := Aside0.mk hB.size
 clear hI
 have HW0 := Aside0.mk hB.size
 have HB := Aside0.mk hB
 clear hB
 unfold spec_l1Cur_puzzle.f at h
 have H := h
 clear h
 obtain ⟨⟨t319, t320, t323, t324⟩, A2, H⟩ := ob H
 (try dsimp only at H)
 obtain ⟨⟨t326, t327, t328⟩, A3, H⟩ := ob H
 (try dsimp only at H)
 go_enter Tryz.func56, Tryz.ntmps56
 go_wp2_with (((with_reducible refine gd 2 ?_); refine bx 2 28 #[.int .i64 0, .slice none 0 0] ?_; intro gb318 hg w6 hbox hb; replace HB := bt66 HB hb; have BK318 := hbox; have GW318 := Aside0.mk ((by rw [hg]; exact (keep_size (w := w) (g := g) (row := none) hkk) : w.heap.size ≤ gb318)); have GE318 := Aside0.mk ((Nat.le_trans HW0.out (by rw [hg]; exact (keep_size (w := w) (g := g) (row := none) hkk) : w.heap.size ≤ gb318) : w0.heap.size ≤ gb318)); replace HK := kt HK (KeepBut.of_below hb g none); have NB0_318 := Aside0.mk ((by rw [hg]; exact Nat.ne_of_lt (IsS66.lt (show IsS66 w0 _ g s0_0 s0_1 s0_2 from hi66)) : g ≠ gb318)); have NB318_0 := Aside0.mk ((by rw [hg]; exact Nat.ne_of_gt (IsS66.lt (show IsS66 w0 _ g s0_0 s0_1 s0_2 from hi66)) : gb318 ≠ g)); replace HI0 := ib66 HI0 hb; clear hb hbox hg; refine halt ?_))
 by_cases c4 : t326 = 0
 ·rw [if_pos c4] at H
  have c4b0 : (t326 == 0) = true := beq_iff_eq.mpr c4
  have c4b1 : (t326 != 0) = false := bne_eq_false_iff_eq.mpr c4
  clear c4
  obtain ⟨y329, hy329⟩ : ∃ y_ : List Int, y_ = (([(-1), 0, 1, 8, 9, 4611686018427387904] : List Int)) := ⟨_, rfl⟩
  replace H : ((spec_l1Cur_among.f s0_0 t327 t328 y329).bind fun bt332 => (some (bt332.1, t320, bt332.2.1, bt332.2.2))) = some (r1, r2, r3, r4) := by first | (rw [hy329]; with_reducible exact H) | (have H2_ := (Option.bind_some _ _).symm.trans H; rw [hy329]; with_reducible exact H2_) | (have H2_ := (Option.bind_some _ _).symm.trans H; with_reducible exact H2_) | with_reducible exact H | (rw [hy329]; exact H) | exact H
  have Ny329 := Aside0.mk hy329
  clear hy329
  obtain ⟨⟨t332, t333, t334⟩, A5, H⟩ := ob H
  (try dsimp only at H)
  simp only [Option.some.injEq, Prod.mk.injEq] at H
  obtain ⟨rfl, rfl, rfl, rfl⟩ := H
  refine Aside0.mk ?_
  try go_wp2_with (first | ((with_reducible refine gc 78 ?_); refine gl (some 5) Tryz.func78 #[.pointer (some ⟨g, 0, none⟩), .int .i64 5] ?_; (with_reducible refine (spec_l1Cur_surePuzzle.calls k g s0_0 s0_1 s0_2 5 t319 t320 t323 t324 w0 _ ?_ ?_ A2.out).mono ?_); exact hi66; exact hb66; rintro e w7 ⟨v321, rfl, ho0, hi, hb, hk⟩; refine ⟨_, rfl, ?_⟩; replace BK318 := kb hk BK318 NB318_0; have HO322 := Aside0.mk (Kd.R_lower ho0 (keep_size (w := w) (g := g) (row := none) hkk)); replace HK := kt HK hk; replace HB := Aside0.mk (hb); replace HI0 := Aside0.mk (hi); (try clear hb); (try clear ho0)) | ((with_reducible refine gd 3 ?_); refine bx 3 28 #[.int .i64 0, .slice none 0 0] ?_; intro gb325 hg w8 hbox hb; replace HO322 := rl HO322 hb; replace HB := bt66 HB hb; have BK325 := hbox; have GW325 := Aside0.mk ((by rw [hg]; exact (keep_size (w := w) (g := g) (row := none) hkk) : w.heap.size ≤ gb325)); have GE325 := Aside0.mk ((Nat.le_trans HW0.out (by rw [hg]; exact (keep_size (w := w) (g := g) (row := none) hkk) : w.heap.size ≤ gb325) : w0.heap.size ≤ gb325)); replace HK := kt HK (KeepBut.of_below hb g none); have ⟨NB318_325, NB325_318⟩ := nn BK318 hg; replace BK318 := nk BK318 hb; have NB0_325 := Aside0.mk ((by rw [hg]; exact Nat.ne_of_lt (IsS66.lt (show IsS66 w0 _ g s0_0 t323 t324 from hi66)) : g ≠ gb325)); have NB325_0 := Aside0.mk ((by rw [hg]; exact Nat.ne_of_gt (IsS66.lt (show IsS66 w0 _ g s0_0 t323 t324 from hi66)) : gb325 ≠ g)); replace HI0 := ib66 HI0 hb; clear hb hbox hg; have hnb9 := nb NB325_318; have hnb10 := nb NB325_0; obtain ⟨hcz11_0, hcz11_1, hfz11_0, hfz11_1⟩ := z2 BK325; obtain ⟨Ao12, co12, eo12⟩ := Kd.R_slice HO322.out; subst eo12) | ((with_reducible refine gc 37 ?_); refine gl (some 7) Tryz.func37 #[.pointer (some ⟨g, 0, none⟩), .int .i64 12] ?_; (with_reducible refine (spec_l1Cur_pick.calls g s0_0 t323 t324 12 t326 t327 t328 w0 _ ?_ ?_ A3.out).mono ?_); exact hi66; exact hb66; rintro e w13 ⟨rfl, hi, hb, hk⟩; refine ⟨_, rfl, ?_⟩; replace BK318 := kb hk BK318 NB318_0; replace HO322 := Aside0.mk (Kd.R_mono (Kd.R_keep (IsS66.apart (show IsS66 w0 _ g s0_0 t323 t324 from hi66) (qf HO322) (by decide)) hk (fun _ h => h.2)) (fun _ h => h.1)); replace BK325 := kz hk (.cells #[.int .i64 t319, .slice Ao12 t320.length co12] 28 (0, 0)) BK325 NB325_0; replace HK := kt HK hk; replace HB := Aside0.mk (hb); replace HI0 := Aside0.mk (hi); (try clear hb)) | ((with_reducible refine gd 11 ?_); refine Kd.R_lit (Kd.int .i64) _ 3 ?hg (N := 11) ?hd (xs := ([(-1), 0, 1, 8, 9, 4611686018427387904] : List Int)) (inner := [.int .i64 (-1), .int .i64 0, .int .i64 1, .int .i64 8, .int .i64 9, .int .i64 4611686018427387904]) (ok := fun _ => True) (okp := fun _ => True) ?hr ?hp (fun _ hk => hk) trivial (Below.refl _ _) (Nat.le_refl _) (by simp) ?_; (case hd => rfl); (case hg => rfl); (case hr => first | (go_simp; done) | (go_simp; rfl)); (case hp => exact (Reps.one (show Kd.M (Kd.int .i64) _ _ _ (-1) [.int .i64 (-1)] from rfl) (Reps.one (show Kd.M (Kd.int .i64) _ _ _ 0 [.int .i64 0] from rfl) (Reps.one (show Kd.M (Kd.int .i64) _ _ _ 1 [.int .i64 1] from rfl) (Reps.one (show Kd.M (Kd.int .i64) _ _ _ 8 [.int .i64 8] from rfl) (Reps.one (show Kd.M (Kd.int .i64) _ _ _ 9 [.int .i64 9] from rfl) (Reps.one (show Kd.M (Kd.int .i64) _ _ _ 4611686018427387904 [.int .i64 4611686018427387904] from rfl) (Reps.none _ _)))))))); intro v330 w14 ho15 hb hg_ hnew_; clear hg_ hnew_; (first | rw [← Ny329.out] at ho15 | (simp only [Int.reduceToNat] at ho15; rw [← Ny329.out] at ho15)); replace HO322 := rl HO322 hb; have HO331 := Aside0.mk (Kd.R_lower ho15 (keep_size (w := w) (g := g) (row := none) hkk)); replace BK318 := nk BK318 hb; replace BK325 := nk BK325 hb; replace HK := kt HK (KeepBut.of_below hb g none); replace HB := bt66 HB hb; replace HI0 := ib66 HI0 hb; clear hb ho15; obtain ⟨Ao16, co16, eo16⟩ := Kd.R_slice HO331.out; subst eo16) | ((with_reducible refine gc 35 ?_); refine gl (some 12) Tryz.func35 #[.pointer (some ⟨g, 0, none⟩), .slice Ao16 y329.length co16] ?_; (with_reducible refine (spec_l1Cur_among.calls g s0_0 t327 t328 _ _ y329 t332 t333 t334 w0 _ ?_ ?_ ?_ ?_ ?_ A5.out).mono ?_); exact hi66; exact hb66; exact rr HO331; exact rn HO331; exact far_slice (IsS66.own_ne HI0.out HO331.out (by decide)); rintro e w17 ⟨rfl, hi, hb, hk⟩; refine ⟨_, rfl, ?_⟩; replace BK318 := kb hk BK318 NB318_0; replace HO322 := Aside0.mk (Kd.R_mono (Kd.R_keep (IsS66.apart (show IsS66 w0 _ g s0_0 t327 t328 from hi66) (pr HO322) (by decide)) hk (fun _ h => h.2)) (fun _ h => h.1)); replace BK325 := kb hk BK325 NB325_0; replace HO331 := Aside0.mk (Kd.R_mono (Kd.R_keep (IsS66.apart (show IsS66 w0 _ g s0_0 t327 t328 from hi66) (pr HO331) (by decide)) hk (fun _ h => h.2)) (fun _ h => h.1)); replace HK := kt HK hk; replace HB := Aside0.mk (hb); replace HI0 := Aside0.mk (hi); (try clear hb); obtain ⟨hcz18_0, hcz18_1, hfz18_0, hfz18_1⟩ := z2 BK325; have hnb19 := nb NB318_0; obtain ⟨hcz20_0, hcz20_1, hfz20_0, hfz20_1⟩ := z2 BK318))
  refine bodyPost_ret (results_cell_row rfl _ _ gb318 28 #[.int .i64 t332, .slice Ao12 t320.length co12] (0, 0) _ rfl (pz BK318) Tryz.underlying28 rfl (by kernel_rfl)) rfl ?_
  exact ⟨_, rs, by (with_reducible repeat (first | apply Kd.R_alloc | apply Kd.R_drewN | apply Kd.R_drew)); exact Kd.R_mono (Kd.R_far (p := ⟨gb318, 1, none⟩) (Kd.R_far (p := ⟨gb318, 0, none⟩) (Kd.R_far (p := ⟨gb325, 0, none⟩) (Kd.R_types (Kd.R_types HO322.out BK325.out (by decide)) BK318.out (by decide)) (fun _ hk => hk.1.2) (.int .i64 t332)) (fun _ hk => hk.2) (.int .i64 t332)) (fun _ hk => hk.2) (.slice Ao12 t320.length co12)) (fun _ hk => trivial), hi66, hb66, hkk⟩
 rw [if_neg c4] at H
 have c4b0 : (t326 == 0) = false := beq_eq_false_iff_ne.mpr c4
 have c4b1 : (t326 != 0) = true := bne_iff_ne.mpr c4
 refine Aside0.mk ?_
 try go_wp2_with (((with_reducible refine gc 78 ?_); refine gl (some 5) Tryz.func78 #[.pointer (some ⟨g, 0, none⟩), .int .i64 5] ?_; (with_reducible refine (spec_l1Cur_surePuzzle.calls k g s0_0 s0_1 s0_2 5 t319 t320 t323 t324 w0 _ ?_ ?_ A2.out).mono ?_); exact hi66; exact hb66; rintro e w25 ⟨v321, rfl, ho0, hi, hb, hk⟩; refine ⟨_, rfl, ?_⟩; replace BK318 := kb hk BK318 NB318_0; have HO322 := Aside0.mk (Kd.R_lower ho0 (keep_size (w := w) (g := g) (row := none) hkk)); replace HK := kt HK hk; replace HB := Aside0.mk (hb); replace HI0 := Aside0.mk (hi); (try clear hb); (try clear ho0); refine halt ?_))
 by_cases c21 : t326 = 1
 ·rw [if_pos c21] at H
  have c21b0 : (t326 == 1) = true := beq_iff_eq.mpr c21
  have c21b1 : (t326 != 1) = false := bne_eq_false_iff_eq.mpr c21
  clear c21
  obtain ⟨⟨t335, t336, t337, t338, t339, t340⟩, A22, H⟩ := ob H
  (try dsimp only at H)
  obtain ⟨c23, H⟩ := oi H
  have LMc23 := Aside0.mk c23
  clear c23
  obtain ⟨y341, hy341⟩ : ∃ y_ : List (S37), y_ = (t320 ++ [(⟨t335, t336, t337, t338⟩ : S37)]) := ⟨_, rfl⟩
  replace H : (some (t319, y341, t339, t340)) = some (r1, r2, r3, r4) := by first | (rw [hy341]; with_reducible exact H) | (have H2_ := (Option.bind_some _ _).symm.trans H; rw [hy341]; with_reducible exact H2_) | (have H2_ := (Option.bind_some _ _).symm.trans H; with_reducible exact H2_) | with_reducible exact H | (rw [hy341]; exact H) | exact H
  have Ny341 := Aside0.mk hy341
  clear hy341
  simp only [Option.some.injEq, Prod.mk.injEq] at H
  obtain ⟨rfl, rfl, rfl, rfl⟩ := H
  refine Aside0.mk ?_
  try go_wp2_with (first | ((with_reducible refine gd 3 ?_); refine bx 3 28 #[.int .i64 0, .slice none 0 0] ?_; intro gb325 hg w26 hbox hb; replace HO322 := rl HO322 hb; replace HB := bt66 HB hb; have BK325 := hbox; have GW325 := Aside0.mk ((by rw [hg]; exact (keep_size (w := w) (g := g) (row := none) hkk) : w.heap.size ≤ gb325)); have GE325 := Aside0.mk ((Nat.le_trans HW0.out (by rw [hg]; exact (keep_size (w := w) (g := g) (row := none) hkk) : w.heap.size ≤ gb325) : w0.heap.size ≤ gb325)); replace HK := kt HK (KeepBut.of_below hb g none); have ⟨NB318_325, NB325_318⟩ := nn BK318 hg; replace BK318 := nk BK318 hb; have NB0_325 := Aside0.mk ((by rw [hg]; exact Nat.ne_of_lt (IsS66.lt (show IsS66 w0 _ g s0_0 t323 t324 from hi66)) : g ≠ gb325)); have NB325_0 := Aside0.mk ((by rw [hg]; exact Nat.ne_of_gt (IsS66.lt (show IsS66 w0 _ g s0_0 t323 t324 from hi66)) : gb325 ≠ g)); replace HI0 := ib66 HI0 hb; clear hb hbox hg; have hnb27 := nb NB325_318; have hnb28 := nb NB325_0; obtain ⟨hcz29_0, hcz29_1, hfz29_0, hfz29_1⟩ := z2 BK325; obtain ⟨Ao30, co30, eo30⟩ := Kd.R_slice HO322.out; subst eo30) | ((with_reducible refine gc 37 ?_); refine gl (some 7) Tryz.func37 #[.pointer (some ⟨g, 0, none⟩), .int .i64 12] ?_; (with_reducible refine (spec_l1Cur_pick.calls g s0_0 t323 t324 12 t326 t327 t328 w0 _ ?_ ?_ A3.out).mono ?_); exact hi66; exact hb66; rintro e w31 ⟨rfl, hi, hb, hk⟩; refine ⟨_, rfl, ?_⟩; replace BK318 := kb hk BK318 NB318_0; replace HO322 := Aside0.mk (Kd.R_mono (Kd.R_keep (IsS66.apart (show IsS66 w0 _ g s0_0 t323 t324 from hi66) (qf HO322) (by decide)) hk (fun _ h => h.2)) (fun _ h => h.1)); replace BK325 := kz hk (.cells #[.int .i64 t319, .slice Ao30 t320.length co30] 28 (0, 0)) BK325 NB325_0; replace HK := kt HK hk; replace HB := Aside0.mk (hb); replace HI0 := Aside0.mk (hi); (try clear hb)))
  replace HO322 := Aside0.mk (Kd.R_drew HO322.out)
  replace BK318 := Aside0.mk (blk_drew BK318.out)
  replace BK325 := Aside0.mk (blk_drew BK325.out)
  replace HI0 := Aside0.mk (IsS66.drew HI0.out)
  replace HK := Aside0.mk (keep_drew HK.out)
  replace HB := Aside0.mk (below_drew1 HB.out)
  refine start_ (n := 8) (S := fun w' => w'.cell? ⟨gb325, 0, none⟩ = some (.int .i64 t319) ∧ w'.cell? ⟨gb325, 1, none⟩ = some (.slice Ao30 t320.length co30)) (ds := [7]) (tb 8 0) (by kernel_rfl) rfl rfl ⟨ec BK325, ec BK325⟩ (fun hHeld => ?_); refine with_tabW spec_l1Cur_puzzle.tab6 spec_l1Cur_puzzle.bits6 (fun HT_ HW_ => ?_)
  generalize w31.drew = w32 at HO322 BK318 BK325 HI0 HK HB hHeld ⊢
  refine pu 0 (some 16) (tb 8 1) ?_
  refine pu 2 (some 18) (tb 8 5) ?_
  refine tk 1 (some 17) (tb 8 7) hHeld ?_
  refine one_ (i := 3) (N := some 19) (tb 8 15) rfl rfl (one_of HT_.out (by kernel_rfl)) (by decide) (fun K hK => ?_)
  refine go1 Tryz.func64 #[.pointer (some ⟨g, 0, none⟩)] ?_
  with_reducible refine (spec_l1Cur_clue.calls k g s0_0 t327 t328 t335 t336 t337 t338 t339 t340 w0 _ ?side1 ?side2 A22.out).mono ?_
  (case side1 => exact hi66)
  (case side2 => exact hb66)
  rintro e w33 ⟨rfl, hi, hb, hk⟩
  refine ⟨_, rfl, ?_⟩
  replace BK318 := kb hk BK318 NB318_0
  replace HO322 := Aside0.mk (Kd.R_mono (Kd.R_keep (IsS66.apart (show IsS66 w0 _ g s0_0 t327 t328 from hi66) (pr HO322) (by decide)) hk (fun _ h => h.2)) (fun _ h => h.1))
  replace BK325 := kb hk BK325 NB325_0
  replace HK := kt HK hk
  replace HB := Aside0.mk (hb)
  replace HI0 := Aside0.mk (hi)
  (try clear hb)
  refine hK.out _ _ ⟨ec BK325, ec BK325⟩ (fun hHeld => ?_)
  clear hK K
  refine nm (some 19) ?_
  refine one_ (i := 4) (N := some 20) (tb 8 31) rfl rfl (one_of HT_.out (by kernel_rfl)) (by decide) (fun K hK => ?_)
  refine value_ (w1 := ?_) (v := ?_) (by rfl) rfl ?_ ?_
  rotate_left 2
  ·go_simp
   constructor
   ·rfl
   rfl
  refine hK.out _ _ ⟨(blk_cell (blk_alloc BK325.out _) 0).trans rfl, (blk_cell (blk_alloc BK325.out _) 1).trans rfl⟩ (fun hHeld => ?_)
  clear hK K
  refine nm (some 20) ?_
  refine one_ (i := 5) (N := some 21) (tb 8 63) rfl rfl (one_of HT_.out (by kernel_rfl)) (by decide) (fun K hK => ?_)
  refine Kd.R_append_step k37 w.heap.size (by rfl) (.tmp 17) (.tmp 20) 26 37 (.agg #[(.int .i64 0), (.int .i64 0), (.int .i64 0), (.int .i64 0)]) 32 rfl Tryz.underlying26 info37 rfl (by decide) (by omega) (.slice Ao30 t320.length co30) t320 (⟨t335, t336, t337, t338⟩ : S37) [.int .i64 t335, .int .i64 t336, .int .i64 t337, .int .i64 t338] (fun _ => True) (fun _ => False) rfl rfl ?aP (fun _ hk => hk.elim) ?aF ?aO (Below.refl _ _) ?aS ?aL ?_
  (case aP => exact k37_mkM _ _ _ (⟨t335, t336, t337, t338⟩ : S37))
  (case aF => exact (fun _ _ => trivial))
  (case aO => exact (pr HO322))
  (case aS => exact (keep_size (w := w) (g := g) (row := none) hkk))
  (case aL => have := LMc23.out; omega)
  intro v342 w34 ho hb hg hat
  rw [← Ny341.out] at ho
  have n0_ := Aside0.mk (IsS66.grown hi66 hg (IsS66.own_ne HI0.out HO322.out (by decide)))
  have n1_ := Aside0.mk (blk_grown (pk BK318) hg (Kd.R_ne HO322.out BK318.out (by decide)))
  have n2_ := Aside0.mk (blk_grown (pk BK325) hg (Kd.R_ne HO322.out BK325.out (by decide)))
  have n3_ := Aside0.mk (below_weaken hb66 HL.out hb)
  have n4_ := Aside0.mk (KeepBut.trans hkk (KeepBut.of_grown hg g) (Kd.R_base2 HO322.out))
  have n5_ := Aside0.mk (ho)
  clear HI0
  clear BK318
  clear BK325
  clear HB
  clear HK
  clear HO322
  have HI0 := n0_
  have BK318 := n1_
  have BK325 := n2_
  have HB := n3_
  have HK := n4_
  have HO343 := n5_
  clear n0_ n1_ n2_ n3_ n4_ n5_
  clear ho hb hg hat
  obtain ⟨Ao35, co35, eo35⟩ := Kd.R_slice HO343.out
  (first | subst eo35 | (injection eo35 with f1_ f2_ f3_; have f4_ := f1_.symm; have f5_ := f3_.symm; clear f1_ f2_ f3_; subst f4_; subst f5_))
  refine hK.out _ _ ⟨ec BK325, ec BK325⟩ (fun hHeld => ?_)
  clear hK K
  refine nm (some 21) ?_
  refine pu 6 (some 22) (tb 8 127) ?_
  refine last_ (i := 7) (N := none) (tb 8 255) rfl rfl (one_of HT_.out (by kernel_rfl)) (by decide) (fun K hK => ?_)
  have hs36 : w34.cell? ⟨gb325, 1, none⟩ = some (.slice Ao30 t320.length co30) := ec BK325
  have hfs36 := blk_frozen BK325.out 1
  have hns36_0 := NB318_325.out
  have hms36_0 := NB325_318.out
  refine skip_ (w1 := ?_) (by rfl) rfl ?_ ?_
  rotate_left
  ·go_simp
   rfl
  refine hK.out _ _ ?_
  clear hK K
  refine done_ (done_of HT_.out (by kernel_rfl)) ?_
  obtain ⟨hcz37_0, hcz37_1, hfz37_0, hfz37_1⟩ := z2 BK325
  have hnb38 := nb NB318_0
  obtain ⟨hcz39_0, hcz39_1, hfz39_0, hfz39_1⟩ := z2 BK318
  try go_wp2
  refine bodyPost_ret (results_cell_row rfl _ _ gb318 28 #[.int .i64 t319, .slice Ao35 y341.length co35] (0, 0) _ rfl (pz BK318) Tryz.underlying28 rfl (by kernel_rfl)) rfl ?_
  exact ⟨_, rs, by (with_reducible repeat (first | apply Kd.R_alloc | apply Kd.R_drewN | apply Kd.R_drew)); exact Kd.R_mono (Kd.R_far (p := ⟨gb318, 1, none⟩) (Kd.R_far (p := ⟨gb318, 0, none⟩) (Kd.R_far (p := ⟨gb325, 1, none⟩) (Kd.R_types (Kd.R_types HO343.out BK325.out (by decide)) BK318.out (by decide)) (fun _ hk => hk.1.2) (.slice Ao35 y341.length co35)) (fun _ hk => hk.2) (.int .i64 t319)) (fun _ hk => hk.2) (.slice Ao35 y341.length co35)) (fun _ hk => trivial), hi66, hb66, hkk⟩
 rw [if_neg c21] at H
 have c21b0 : (t326 == 1) = false := beq_eq_false_iff_ne.mpr c21
 have c21b1 : (t326 != 1) = true := bne_iff_ne.mpr c21
 refine Aside0.mk ?_
 try go_wp2_with (((with_reducible refine gd 3 ?_); refine bx 3 28 #[.int .i64 0, .slice none 0 0] ?_; intro gb325 hg w43 hbox hb; replace HO322 := rl HO322 hb; replace HB := bt66 HB hb; have BK325 := hbox; have GW325 := Aside0.mk ((by rw [hg]; exact (keep_size (w := w) (g := g) (row := none) hkk) : w.heap.size ≤ gb325)); have GE325 := Aside0.mk ((Nat.le_trans HW0.out (by rw [hg]; exact (keep_size (w := w) (g := g) (row := none) hkk) : w.heap.size ≤ gb325) : w0.heap.size ≤ gb325)); replace HK := kt HK (KeepBut.of_below hb g none); have ⟨NB318_325, NB325_318⟩ := nn BK318 hg; replace BK318 := nk BK318 hb; have NB0_325 := Aside0.mk ((by rw [hg]; exact Nat.ne_of_lt (IsS66.lt (show IsS66 w0 _ g s0_0 t323 t324 from hi66)) : g ≠ gb325)); have NB325_0 := Aside0.mk ((by rw [hg]; exact Nat.ne_of_gt (IsS66.lt (show IsS66 w0 _ g s0_0 t323 t324 from hi66)) : gb325 ≠ g)); replace HI0 := ib66 HI0 hb; clear hb hbox hg; have hnb44 := nb NB325_318; have hnb45 := nb NB325_0; obtain ⟨hcz46_0, hcz46_1, hfz46_0, hfz46_1⟩ := z2 BK325; obtain ⟨Ao47, co47, eo47⟩ := Kd.R_slice HO322.out; subst eo47; refine halt ?_))
 by_cases c40 : t326 = 2
 ·rw [if_pos c40] at H
  have c40b0 : (t326 == 2) = true := beq_iff_eq.mpr c40
  have c40b1 : (t326 != 2) = false := bne_eq_false_iff_eq.mpr c40
  clear c40
  have H' := Aside0.mk H
  clear H
  refine Aside0.mk ?_
  try go_wp2_with (((with_reducible refine gc 37 ?_); refine gl (some 7) Tryz.func37 #[.pointer (some ⟨g, 0, none⟩), .int .i64 12] ?_; (with_reducible refine (spec_l1Cur_pick.calls g s0_0 t323 t324 12 t326 t327 t328 w0 _ ?_ ?_ A3.out).mono ?_); exact hi66; exact hb66; rintro e w48 ⟨rfl, hi, hb, hk⟩; refine ⟨_, rfl, ?_⟩; replace BK318 := kb hk BK318 NB318_0; replace HO322 := Aside0.mk (Kd.R_mono (Kd.R_keep (IsS66.apart (show IsS66 w0 _ g s0_0 t323 t324 from hi66) (qf HO322) (by decide)) hk (fun _ h => h.2)) (fun _ h => h.1)); replace BK325 := kz hk (.cells #[.int .i64 t319, .slice Ao47 t320.length co47] 28 (0, 0)) BK325 NB325_0; replace HK := kt HK hk; replace HB := Aside0.mk (hb); replace HI0 := Aside0.mk (hi); (try clear hb)))
  go_loopg [] k (fun kq w' => ∃ (x1001_1 : Int) (x1002_1 : Int) (x326001_1 : List (S37)) (u326001 : Value), Aside0 (spec_l1Cur_puzzle.l0 kq s0_0 x1001_1 x1002_1 t319 x326001_1 = some (r1, r2, r3, r4)) ∧ Aside0 (kq ≤ k) ∧ Aside0 (Kd.R k37 37 w' w.heap.size (fun _ => True) u326001 x326001_1) ∧ Aside0 (w'.heap[gb318]? = some (.cells #[.int .i64 0, (.slice none 0 0)] 28 (0, 0))) ∧ Aside0 (w'.heap[gb325]? = some (.cells #[.int .i64 t319, u326001] 28 (0, 0))) ∧ Aside0 (IsS66 w0 w' g s0_0 x1001_1 x1002_1) ∧ Aside0 (KeepBut w w' g none) ∧ Aside0 (Below w0.heap.size w0 w'))
  case atStart => exact ⟨(t327), (t328), (t320), (.slice Ao47 t320.length co47), H', ⟨Nat.le_refl _⟩, ⟨pr HO322⟩, ⟨pk BK318⟩, ⟨pk BK325⟩, ⟨hi66⟩, ⟨hkk⟩, ⟨hb66⟩⟩
  case round =>
   clear H'
   try clear c1
   try clear c2
   try clear p2
   try clear c3
   try clear c4
   try clear c4b0
   try clear c4b1
   try clear c5
   try clear c6
   try clear c7
   try clear c9
   try clear c10
   try clear c19
   try clear c21
   try clear c21b0
   try clear c21b1
   try clear c23
   try clear c27
   try clear c28
   try clear c35
   try clear c37
   try clear c38
   try clear c40
   try clear c40b0
   try clear c40b1
   try clear c44
   try clear c45
   try clear hcz11_0
   try clear hcz11_1
   try clear hcz18_0
   try clear hcz18_1
   try clear hcz20_0
   try clear hcz20_1
   try clear hcz29_0
   try clear hcz29_1
   try clear hcz37_0
   try clear hcz37_1
   try clear hcz39_0
   try clear hcz39_1
   try clear hcz46_0
   try clear hcz46_1
   try clear hfz11_0
   try clear hfz11_1
   try clear hfz18_0
   try clear hfz18_1
   try clear hfz20_0
   try clear hfz20_1
   try clear hfz29_0
   try clear hfz29_1
   try clear hfz37_0
   try clear hfz37_1
   try clear hfz39_0
   try clear hfz39_1
   try clear hfz46_0
   try clear hfz46_1
   obtain ⟨x1001_1, x1002_1, x326001_1, u326001, HA, HK1, HO_326001, BK318, BK325, HI0, HK, HB⟩ := hrel
   cases gk with
   | zero => exact absurd HA.out (by simp [spec_l1Cur_puzzle.l0])
   | succ k1 =>
    have H := HA.out
    clear HA
    simp only [spec_l1Cur_puzzle.l0] at H
    obtain ⟨⟨t344, t345, t346⟩, A49, H⟩ := ob H
    (try dsimp only at H)
    by_cases c50 : (x326001_1.length : Int) < (wrap64 (6 + t344))
    ·rw [if_pos c50] at H
     have c50b0 := decide_eq_true c50
     clear c50
     obtain ⟨c51, H⟩ := oi H
     have LMc51 := Aside0.mk c51
     clear c51
     obtain ⟨y347, hy347⟩ : ∃ y_ : List (S37), y_ = (x326001_1 ++ [(⟨2, 0, 0, 0⟩ : S37)]) := ⟨_, rfl⟩
     replace H : (spec_l1Cur_puzzle.l0 k1 s0_0 t345 t346 t319 y347) = some (r1, r2, r3, r4) := by first | (rw [hy347]; with_reducible exact H) | (have H2_ := (Option.bind_some _ _).symm.trans H; rw [hy347]; with_reducible exact H2_) | (have H2_ := (Option.bind_some _ _).symm.trans H; with_reducible exact H2_) | with_reducible exact H | (rw [hy347]; exact H) | exact H
     have Ny347 := Aside0.mk hy347
     clear hy347
     have H' := Aside0.mk H
     clear H
     try go_wp2
     replace HO_326001 := Aside0.mk (Kd.R_drew HO_326001.out)
     replace BK318 := Aside0.mk (blk_drew BK318.out)
     replace BK325 := Aside0.mk (blk_drew BK325.out)
     replace HI0 := Aside0.mk (IsS66.drew HI0.out)
     replace HK := Aside0.mk (keep_drew HK.out)
     replace HB := Aside0.mk (below_drew1 HB.out)
     obtain ⟨Ao53, co53, eo53⟩ := Kd.R_slice HO_326001.out
     (first | subst eo53 | (injection eo53 with f1_ f2_ f3_; have f4_ := f1_.symm; have f5_ := f3_.symm; clear f1_ f2_ f3_; subst f4_; subst f5_))
     refine start_ (n := 7) (S := fun w' => w'.cell? ⟨gb325, 0, none⟩ = some (.int .i64 t319) ∧ w'.cell? ⟨gb325, 1, none⟩ = some (.slice Ao53 x326001_1.length co53)) (ds := []) (tb 7 0) (by kernel_rfl) rfl rfl ⟨ec BK325, ec BK325⟩ (fun hHeld => ?_)
     generalize wr.drew = w52 at HO_326001 BK318 BK325 HI0 HK HB hHeld ⊢
     refine pure_ (i := 0) (N := some 25) (v := ?_) (a' := ?_) (tb 7 1) rfl rfl (by kernel_rfl) (fun _ _ _ h => h) (Or.inl ⟨by rfl, ?_⟩) ?_ ?_
     rotate_left
     ·intro w'
      go_simp
      with_reducible rfl
     rotate_left
     ·simp only [Act.put, List.setIfInBounds_toArray, List.set_cons_zero, List.set_cons_succ, i64_w, i32_w]
      rfl
     refine pure_ (i := 3) (N := some 28) (v := ?_) (a' := ?_) (tb 7 9) rfl rfl (by kernel_rfl) (fun _ _ _ h => h) (Or.inl ⟨by rfl, ?_⟩) ?_ ?_
     rotate_left
     ·intro w'
      go_simp
      with_reducible rfl
     rotate_left
     ·simp only [Act.put, List.setIfInBounds_toArray, List.set_cons_zero, List.set_cons_succ, i64_w, i32_w]
      rfl
     refine take_ (i := 1) (N := some 26) (v := ?_) (a' := ?_) (tb 7 11) rfl rfl (by kernel_rfl) (fun _ _ _ h => h) (Or.inl ⟨by rfl, ?_⟩) hHeld ?_ ?_
     rotate_left
     ·rintro w' ⟨s0, s1⟩
      go_simp
      with_reducible rfl
     rotate_left
     ·simp only [Act.put, List.setIfInBounds_toArray, List.set_cons_zero, List.set_cons_succ, i64_w, i32_w]
      rfl
     refine pure_ (i := 2) (N := some 27) (v := ?_) (a' := ?_) (tb 7 15) rfl rfl (by kernel_rfl) (fun _ _ _ h => h) (Or.inl ⟨by rfl, ?_⟩) ?_ ?_
     rotate_left
     ·intro w'
      go_simp
      with_reducible rfl
     rotate_left
     ·simp only [Act.put, List.setIfInBounds_toArray, List.set_cons_zero, List.set_cons_succ, i64_w, i32_w]
      rfl
     refine one_ (i := 4) (N := some 29) (tb 7 31) rfl rfl (by kernel_rfl) (by decide) (fun K hK => ?_)
     refine go1 Tryz.func37 #[.pointer (some ⟨g, 0, none⟩), .int .i64 2] ?_
     with_reducible refine (spec_l1Cur_pick.calls g s0_0 x1001_1 x1002_1 2 t344 t345 t346 w0 _ ?side1 ?side2 A49.out).mono ?_
     (case side1 => exact hi66)
     (case side2 => exact hb66)
     rintro e w54 ⟨rfl, hi, hb, hk⟩
     refine ⟨_, rfl, ?_⟩
     replace HO_326001 := Aside0.mk (Kd.R_mono (Kd.R_keep (IsS66.apart (show IsS66 w0 _ g s0_0 x1001_1 x1002_1 from hi66) (pr HO_326001) (by decide)) hk (fun _ h => h.2)) (fun _ h => h.1))
     replace BK318 := kb hk BK318 NB318_0
     replace BK325 := kb hk BK325 NB325_0
     replace HK := kt HK hk
     replace HB := Aside0.mk (hb)
     replace HI0 := Aside0.mk (hi)
     (try clear hb)
     refine hK.out _ _ ⟨ec BK325, ec BK325⟩ (fun hHeld => ?_)
     clear hK K
     refine nm (some 29) ?_
     refine pure_ (i := 5) (N := some 30) (v := ?_) (a' := ?_) (tb 7 63) rfl rfl (by kernel_rfl) (fun _ _ _ h => h) (Or.inl ⟨by rfl, ?_⟩) ?_ ?_
     rotate_left
     ·intro w'
      go_simp
      with_reducible rfl
     rotate_left
     ·simp only [Act.put, List.setIfInBounds_toArray, List.set_cons_zero, List.set_cons_succ, i64_w, i32_w]
      rfl
     refine pure_ (i := 6) (N := some 31) (v := ?_) (a' := ?_) (tb 7 127) rfl rfl (by kernel_rfl) (fun _ _ _ h => h) (Or.inl ⟨by rfl, ?_⟩) ?_ ?_
     rotate_left
     ·intro w'
      go_simp
      with_reducible rfl
     rotate_left
     ·simp only [Act.put, List.setIfInBounds_toArray, List.set_cons_zero, List.set_cons_succ, i64_w, i32_w]
      rfl
     refine done_ (by kernel_rfl) ?_
     have hnb55 := nb NB325_318
     have hnb56 := nb NB325_0
     have hz57 := z2 BK325
     try go_wp2_with (first | ((with_reducible refine gate_builtin (b := .append) (xs := #[.tmp 33, .tmp 35]) rfl ?_); at_builtin; refine Kd.R_append k37 w.heap.size rfl (.tmp 33) (.tmp 35) 26 37 (.agg #[(.int .i64 0), (.int .i64 0), (.int .i64 0), (.int .i64 0)]) 32 rfl Tryz.underlying26 info37 rfl (by decide) (by omega) (.slice Ao53 x326001_1.length co53) x326001_1 (⟨2, 0, 0, 0⟩ : S37) [.int .i64 2, .int .i64 0, .int .i64 0, .int .i64 0] (fun _ => True) (fun _ => False) rfl rfl ?aP (fun _ hk => hk.elim) ?aF ?aO (Below.refl _ _) ?aS ?aL ?_; (case aP => exact k37_mkM _ _ _ (⟨2, 0, 0, 0⟩ : S37)); (case aF => exact (fun _ _ => trivial)); (case aO => exact (pr HO_326001)); (case aS => exact (keep_size (w := w) (g := g) (row := none) hkk)); (case aL => have := LMc51.out; omega); intro v348 w58 ho hb hg hat; rw [← Ny347.out] at ho; have n0_ := Aside0.mk (blk_grown (pk BK318) hg (Kd.R_ne HO_326001.out BK318.out (by decide))); have n1_ := Aside0.mk (blk_grown (pk BK325) hg (Kd.R_ne HO_326001.out BK325.out (by decide))); have n2_ := Aside0.mk (IsS66.grown hi66 hg (IsS66.own_ne HI0.out HO_326001.out (by decide))); have n3_ := Aside0.mk (below_weaken hb66 HL.out hb); have n4_ := Aside0.mk (KeepBut.trans hkk (KeepBut.of_grown hg g) (Kd.R_base2 HO_326001.out)); have n5_ := Aside0.mk (ho); clear BK318; clear BK325; clear HI0; clear HB; clear HK; clear HO_326001; have BK318 := n0_; have BK325 := n1_; have HI0 := n2_; have HB := n3_; have HK := n4_; have HO349 := n5_; clear n0_ n1_ n2_ n3_ n4_ n5_; clear ho hb hg hat; obtain ⟨Ao59, co59, eo59⟩ := Kd.R_slice HO349.out; subst eo59; have hz60 := z2 BK325))
     go_roundg k1
     case measure => have := HK1.out; omega
     case rel => exact ⟨(t345), (t346), (y347), (.slice Ao59 y347.length co59), H', ⟨by have := HK1.out; omega⟩, ⟨by (with_reducible repeat (first | apply Kd.R_alloc | apply Kd.R_drewN | apply Kd.R_drew)); exact Kd.R_mono (Kd.R_far (p := ⟨gb325, 1, none⟩) (Kd.R_types HO349.out BK325.out (by decide)) (fun _ hk => hk.2) (.slice Ao59 y347.length co59)) (fun _ hk => trivial)⟩, ⟨pf BK318⟩, ⟨pz BK325⟩, ⟨hi66⟩, ⟨hkk⟩, ⟨hb66⟩⟩
    rw [if_neg c50] at H
    have c50b0 := decide_eq_false c50
    clear c50
    simp only [Option.some.injEq, Prod.mk.injEq] at H
    obtain ⟨rfl, rfl, rfl, rfl⟩ := H
    try go_wp2
    replace HO_326001 := Aside0.mk (Kd.R_drew HO_326001.out)
    replace BK318 := Aside0.mk (blk_drew BK318.out)
    replace BK325 := Aside0.mk (blk_drew BK325.out)
    replace HI0 := Aside0.mk (IsS66.drew HI0.out)
    replace HK := Aside0.mk (keep_drew HK.out)
    replace HB := Aside0.mk (below_drew1 HB.out)
    obtain ⟨Ao62, co62, eo62⟩ := Kd.R_slice HO_326001.out
    (first | subst eo62 | (injection eo62 with f1_ f2_ f3_; have f4_ := f1_.symm; have f5_ := f3_.symm; clear f1_ f2_ f3_; subst f4_; subst f5_))
    refine start_ (n := 7) (S := fun w' => w'.cell? ⟨gb325, 0, none⟩ = some (.int .i64 t319) ∧ w'.cell? ⟨gb325, 1, none⟩ = some (.slice Ao62 x326001_1.length co62)) (ds := []) (tb 7 0) (by kernel_rfl) rfl rfl ⟨ec BK325, ec BK325⟩ (fun hHeld => ?_)
    generalize wr.drew = w61 at HO_326001 BK318 BK325 HI0 HK HB hHeld ⊢
    refine pure_ (i := 0) (N := some 25) (v := ?_) (a' := ?_) (tb 7 1) rfl rfl (by kernel_rfl) (fun _ _ _ h => h) (Or.inl ⟨by rfl, ?_⟩) ?_ ?_
    rotate_left
    ·intro w'
     go_simp
     with_reducible rfl
    rotate_left
    ·simp only [Act.put, List.setIfInBounds_toArray, List.set_cons_zero, List.set_cons_succ, i64_w, i32_w]
     rfl
    refine pure_ (i := 3) (N := some 28) (v := ?_) (a' := ?_) (tb 7 9) rfl rfl (by kernel_rfl) (fun _ _ _ h => h) (Or.inl ⟨by rfl, ?_⟩) ?_ ?_
    rotate_left
    ·intro w'
     go_simp
     with_reducible rfl
    rotate_left
    ·simp only [Act.put, List.setIfInBounds_toArray, List.set_cons_zero, List.set_cons_succ, i64_w, i32_w]
     rfl
    refine take_ (i := 1) (N := some 26) (v := ?_) (a' := ?_) (tb 7 11) rfl rfl (by kernel_rfl) (fun _ _ _ h => h) (Or.inl ⟨by rfl, ?_⟩) hHeld ?_ ?_
    rotate_left
    ·rintro w' ⟨s0, s1⟩
     go_simp
     with_reducible rfl
    rotate_left
    ·simp only [Act.put, List.setIfInBounds_toArray, List.set_cons_zero, List.set_cons_succ, i64_w, i32_w]
     rfl
    refine pure_ (i := 2) (N := some 27) (v := ?_) (a' := ?_) (tb 7 15) rfl rfl (by kernel_rfl) (fun _ _ _ h => h) (Or.inl ⟨by rfl, ?_⟩) ?_ ?_
    rotate_left
    ·intro w'
     go_simp
     with_reducible rfl
    rotate_left
    ·simp only [Act.put, List.setIfInBounds_toArray, List.set_cons_zero, List.set_cons_succ, i64_w, i32_w]
     rfl
    refine one_ (i := 4) (N := some 29) (tb 7 31) rfl rfl (by kernel_rfl) (by decide) (fun K hK => ?_)
    refine go1 Tryz.func37 #[.pointer (some ⟨g, 0, none⟩), .int .i64 2] ?_
    with_reducible refine (spec_l1Cur_pick.calls g s0_0 x1001_1 x1002_1 2 t344 t345 t346 w0 _ ?side1 ?side2 A49.out).mono ?_
    (case side1 => exact hi66)
    (case side2 => exact hb66)
    rintro e w63 ⟨rfl, hi, hb, hk⟩
    refine ⟨_, rfl, ?_⟩
    replace HO_326001 := Aside0.mk (Kd.R_mono (Kd.R_keep (IsS66.apart (show IsS66 w0 _ g s0_0 x1001_1 x1002_1 from hi66) (pr HO_326001) (by decide)) hk (fun _ h => h.2)) (fun _ h => h.1))
    replace BK318 := kb hk BK318 NB318_0
    replace BK325 := kb hk BK325 NB325_0
    replace HK := kt HK hk
    replace HB := Aside0.mk (hb)
    replace HI0 := Aside0.mk (hi)
    (try clear hb)
    refine hK.out _ _ ⟨ec BK325, ec BK325⟩ (fun hHeld => ?_)
    clear hK K
    refine nm (some 29) ?_
    refine pure_ (i := 5) (N := some 30) (v := ?_) (a' := ?_) (tb 7 63) rfl rfl (by kernel_rfl) (fun _ _ _ h => h) (Or.inl ⟨by rfl, ?_⟩) ?_ ?_
    rotate_left
    ·intro w'
     go_simp
     with_reducible rfl
    rotate_left
    ·simp only [Act.put, List.setIfInBounds_toArray, List.set_cons_zero, List.set_cons_succ, i64_w, i32_w]
     rfl
    refine pure_ (i := 6) (N := some 31) (v := ?_) (a' := ?_) (tb 7 127) rfl rfl (by kernel_rfl) (fun _ _ _ h => h) (Or.inl ⟨by rfl, ?_⟩) ?_ ?_
    rotate_left
    ·intro w'
     go_simp
     with_reducible rfl
    rotate_left
    ·simp only [Act.put, List.setIfInBounds_toArray, List.set_cons_zero, List.set_cons_succ, i64_w, i32_w]
     rfl
    refine done_ (by kernel_rfl) ?_
    have hnb64 := nb NB325_318
    have hnb65 := nb NB325_0
    have hz66 := z2 BK325
    have hnb67 := nb NB318_0
    have hz68 := z2 BK318
    try go_wp2
    refine bodyPost_ret (results_cell_row rfl _ _ gb318 28 #[.int .i64 t319, .slice Ao62 x326001_1.length co62] (0, 0) _ rfl (pz BK318) Tryz.underlying28 rfl (by kernel_rfl)) rfl ?_
    exact ⟨_, rs, by (with_reducible repeat (first | apply Kd.R_alloc | apply Kd.R_drewN | apply Kd.R_drew)); exact Kd.R_mono (Kd.R_far (p := ⟨gb318, 1, none⟩) (Kd.R_far (p := ⟨gb318, 0, none⟩) (Kd.R_types HO_326001.out BK318.out (by decide)) (fun _ hk => hk.2) (.int .i64 t319)) (fun _ hk => hk.2) (.slice Ao62 x326001_1.length co62)) (fun _ hk => trivial), hi66, hb66, hkk⟩
 rw [if_neg c40] at H
 have c40b0 : (t326 == 2) = false := beq_eq_false_iff_ne.mpr c40
 have c40b1 : (t326 != 2) = true := bne_iff_ne.mpr c40
 simp only [Option.some.injEq, Prod.mk.injEq] at H
 obtain ⟨rfl, rfl, rfl, rfl⟩ := H
 refine Aside0.mk ?_
 try go_wp2_with (((with_reducible refine gc 37 ?_); refine gl (some 7) Tryz.func37 #[.pointer (some ⟨g, 0, none⟩), .int .i64 12] ?_; (with_reducible refine (spec_l1Cur_pick.calls g s0_0 t323 t324 12 t326 t327 t328 w0 _ ?_ ?_ A3.out).mono ?_); exact hi66; exact hb66; rintro e w76 ⟨rfl, hi, hb, hk⟩; refine ⟨_, rfl, ?_⟩; replace BK318 := kb hk BK318 NB318_0; replace HO322 := Aside0.mk (Kd.R_mono (Kd.R_keep (IsS66.apart (show IsS66 w0 _ g s0_0 t323 t324 from hi66) (qf HO322) (by decide)) hk (fun _ h => h.2)) (fun _ h => h.1)); replace BK325 := kz hk (.cells #[.int .i64 t319, .slice Ao47 t320.length co47] 28 (0, 0)) BK325 NB325_0; replace HK := kt HK hk; replace HB := Aside0.mk (hb); replace HI0 := Aside0.mk (hi); (try clear hb); have hz77 := z2 BK325; have hnb78 := nb NB318_0; have hz79 := z2 BK318))
 refine bodyPost_ret (results_cell_row rfl _ _ gb318 28 #[.int .i64 t319, .slice Ao47 t320.length co47] (0, 0) _ rfl (pz BK318) Tryz.underlying28 rfl (by kernel_rfl)) rfl ?_
 exact ⟨_, rs, by (with_reducible repeat (first | apply Kd.R_alloc | apply Kd.R_drewN | apply Kd.R_drew)); exact Kd.R_mono (Kd.R_far (p := ⟨gb318, 1, none⟩) (Kd.R_far (p := ⟨gb318, 0, none⟩) (Kd.R_types HO322.out BK318.out (by decide)) (fun _ hk => hk.2) (.int .i64 t319)) (fun _ hk => hk.2) (.slice Ao47 t320.length co47)) (fun _ hk => trivial), hi66, hb66, hkk⟩

end Go.Proofs.YthjbmojacgkdcaaGreatDoor.PFnRowsHidden
