-- Laid by xprint, a program of this session that runs over the kit's print.
import Derived.Test.YthjbmojacgkdcaaGreatDoorPFnRowsHiddenx8
namespace Go.Proofs.YthjbmojacgkdcaaGreatDoor.PFnRowsHidden
open Go.RowKit Go.Proofs.YthjbmojacgkdcaaGreatDoorW.PrintWords Go.Proofs.YthjbmojacgkdcaaGreatDoorW.PrintLast Go.Proofs.YthjbmojacgkdcaaGreatDoorW.PrintMore Go.Proofs.YthjbmojacgkdcaaGreatDoor.Sq
attribute [local go_sem] max2_int min2_int max_two min_two max_three min_three max_four min_four   -- for this text's walks alone
set_option linter.unusedVariables false
set_option linter.unusedSimpArgs false

/-! ### spec_l1Cur_clue: function 64 -/
mutual
def spec_l1Cur_clue.j0 : Nat → Bool → List Int → Int → Int → Int → Int → Int → Int → Option (Int × Int × Int × Int × Int × Int)
  | 0, _, _, _, _, _, _, _, _ => none
  | k + 1, x28, x1000, x1001, x1002, x284000, x284001, x284002, x284003 => if x28 = true then ((spec_l1Cur_pick.f x1000 x1001 x1002 6).bind fun bt287 => ((spec_l1Cur_pick.f x1000 bt287.2.1 bt287.2.2 9).bind fun bt290 => (spec_l1Cur_clue.j1 k x1000 bt290.2.1 bt290.2.2 x284000 (wrap64 (bt287.1 - (wrap64 (Int.tdiv bt290.1 8)))) x284002 x284003))) else (spec_l1Cur_clue.j1 k x1000 x1001 x1002 x284000 x284001 x284002 x284003)
def spec_l1Cur_clue.j1 : Nat → List Int → Int → Int → Int → Int → Int → Int → Option (Int × Int × Int × Int × Int × Int)
  | 0, _, _, _, _, _, _, _ => none
  | k + 1, x1000, x1001, x1002, x284000, x284001, x284002, x284003 => if x284000 = 0 then ((spec_l1Cur_pick.f x1000 x1001 x1002 4).bind fun bt293 => (some (x284000, x284001, bt293.1, x284003, bt293.2.1, bt293.2.2))) else ((spec_l1Cur_one.f x1000 x1001 x1002 10).bind fun bt296 => (if bt296.1 = true then ((spec_l1Cur_pick.f x1000 bt296.2.1 bt296.2.2 4).bind fun bt299 => (some (x284000, x284001, bt299.1, x284003, bt299.2.1, bt299.2.2))) else (some (x284000, x284001, x284002, x284003, bt296.2.1, bt296.2.2))))
end
def spec_l1Cur_clue.f (k : Nat) (s0_0 : List Int) (s0_1 : Int) (s0_2 : Int) : Option (Int × Int × Int × Int × Int × Int) := (spec_l1Cur_pick.f s0_0 s0_1 s0_2 5).bind fun bt271 => ((spec_l1Cur_pick.f s0_0 bt271.2.1 bt271.2.2 9).bind fun bt274 => ((spec_l1Cur_pick.f s0_0 bt274.2.1 bt274.2.2 4).bind fun bt277 => ((spec_l1Cur_pick.f s0_0 bt277.2.1 bt277.2.2 9).bind fun bt280 => (if (wrap64 (bt271.1 + (wrap64 (Int.tdiv bt274.1 8)))) = 0 then (spec_l1Cur_clue.j0 k true s0_0 bt280.2.1 bt280.2.2 (wrap64 (bt271.1 + (wrap64 (Int.tdiv bt274.1 8)))) 0 0 (wrap64 (bt277.1 - (wrap64 (Int.tdiv bt280.1 8))))) else (if (wrap64 (bt271.1 + (wrap64 (Int.tdiv bt274.1 8)))) = 4 then (spec_l1Cur_clue.j0 k true s0_0 bt280.2.1 bt280.2.2 (wrap64 (bt271.1 + (wrap64 (Int.tdiv bt274.1 8)))) 0 0 (wrap64 (bt277.1 - (wrap64 (Int.tdiv bt280.1 8))))) else ((spec_l1Cur_one.f s0_0 bt280.2.1 bt280.2.2 10).bind fun bt284 => (spec_l1Cur_clue.j0 k bt284.1 s0_0 bt284.2.1 bt284.2.2 (wrap64 (bt271.1 + (wrap64 (Int.tdiv bt274.1 8)))) 0 0 (wrap64 (bt277.1 - (wrap64 (Int.tdiv bt280.1 8)))))))))))
theorem spec_l1Cur_clue.mono_l : ∀ k, (∀ y0 y1 y2 y3 y4 y5 y6 y7, LeO (spec_l1Cur_clue.j0 k y0 y1 y2 y3 y4 y5 y6 y7) (spec_l1Cur_clue.j0 (k + 1) y0 y1 y2 y3 y4 y5 y6 y7)) ∧ (∀ y0 y1 y2 y3 y4 y5 y6, LeO (spec_l1Cur_clue.j1 k y0 y1 y2 y3 y4 y5 y6) (spec_l1Cur_clue.j1 (k + 1) y0 y1 y2 y3 y4 y5 y6))
  | 0 => ⟨fun _ _ _ _ _ _ _ _ r h => by simp [spec_l1Cur_clue.j0] at h, fun _ _ _ _ _ _ _ r h => by simp [spec_l1Cur_clue.j1] at h⟩
  | k + 1 => by
    obtain ⟨ih0, ih1⟩ := spec_l1Cur_clue.mono_l k
    refine ⟨?q0, ?q1⟩
    case' q0 => (intros; unfold spec_l1Cur_clue.j0)
    case' q1 => (intros; unfold spec_l1Cur_clue.j1)
    all_goals repeat' first
     | (with_reducible exact ih0 _ _ _ _ _ _ _ _)
     | (with_reducible exact ih1 _ _ _ _ _ _ _)
     | (with_reducible exact LeO.refl _)
     | (with_reducible exact LeO.none _)
     | (with_reducible refine LeO.ite ?_ ?_)
     | (with_reducible refine LeO.bind ?_ (fun _ => ?_))
     | exact ih0 _ _ _ _ _ _ _ _
     | exact ih1 _ _ _ _ _ _ _
     | exact LeO.none _
     | refine LeO.ite ?_ ?_
     | refine LeO.bind ?_ (fun _ => ?_)
theorem spec_l1Cur_clue.mono : ∀ a0 a1 a2 k, LeO (spec_l1Cur_clue.f k a0 a1 a2) (spec_l1Cur_clue.f (k + 1) a0 a1 a2) := by
  intro a0 a1 a2 k
  obtain ⟨ih0, ih1⟩ := spec_l1Cur_clue.mono_l k
  unfold spec_l1Cur_clue.f
  repeat' first
      | (with_reducible exact ih0 _ _ _ _ _ _ _ _)
      | (with_reducible exact ih1 _ _ _ _ _ _ _)
      | (with_reducible exact LeO.refl _)
      | (with_reducible exact LeO.none _)
      | (with_reducible refine LeO.ite ?_ ?_)
      | (with_reducible refine LeO.bind ?_ (fun _ => ?_))
      | exact ih0 _ _ _ _ _ _ _ _
      | exact ih1 _ _ _ _ _ _ _
      | exact LeO.none _
      | refine LeO.ite ?_ ?_
      | refine LeO.bind ?_ (fun _ => ?_)
set_option maxHeartbeats 8000000 in
set_option maxRecDepth 100000 in
theorem spec_l1Cur_clue.calls (k : Nat) (g : Nat) (s0_0 : List Int) (s0_1 : Int) (s0_2 : Int) (r1 : Int) (r2 : Int) (r3 : Int) (r4 : Int) (r5 : Int) (r6 : Int) (w0 w : World) (hI : IsS66 w0 w g s0_0 s0_1 s0_2) (hB : Below w0.heap.size w0 w) (h : spec_l1Cur_clue.f k s0_0 s0_1 s0_2 = some (r1, r2, r3, r4, r5, r6)) :
  Calls Tryz.prog 64 #[.pointer (some ⟨g, 0, none⟩)] w fun e w' => e = .returned (.agg #[.int .i64 r1, .int .i64 r2, .int .i64 r3, .int .i64 r4]) ∧ IsS66 w0 w' g s0_0 r5 r6 ∧ Below w0.heap.size w0 w' ∧ KeepBut w w' g none := by
 have hu37 := Tryz.underlying37
 have HI0 := Aside0.mk hI
 have HK := Aside0.mk (KeepBut.refl w g none)
 have HL := Aside0.mk hB.size
 clear hI
 have HW0 := Aside0.mk hB.size
 have HB := Aside0.mk hB
 clear hB
 unfold spec_l1Cur_clue.f at h
 have H := h
 clear h
 obtain ⟨⟨t271, t272, t273⟩, A2, H⟩ := ob H
 (try dsimp only at H)
 obtain ⟨⟨t274, t275, t276⟩, A3, H⟩ := ob H
 (try dsimp only at H)
 obtain ⟨⟨t277, t278, t279⟩, A4, H⟩ := ob H
 (try dsimp only at H)
 obtain ⟨⟨t280, t281, t282⟩, A5, H⟩ := ob H
 (try dsimp only at H)
 have HC6 := Aside0.mk H
 clear H
 go_enter Tryz.func64, Tryz.ntmps64
 go_upto_region 2 with (first | ((with_reducible refine gd 2 ?_); refine bx 2 37 #[.int .i64 0, .int .i64 0, .int .i64 0, .int .i64 0] ?_; intro gb270 hg w7 hbox hb; replace HB := bt66 HB hb; have BK270 := hbox; have GW270 := Aside0.mk ((by rw [hg]; exact (keep_size (w := w) (g := g) (row := none) hkk) : w.heap.size ≤ gb270)); have GE270 := Aside0.mk ((Nat.le_trans HW0.out (by rw [hg]; exact (keep_size (w := w) (g := g) (row := none) hkk) : w.heap.size ≤ gb270) : w0.heap.size ≤ gb270)); replace HK := kt HK (KeepBut.of_below hb g none); have NB0_270 := Aside0.mk ((by rw [hg]; exact Nat.ne_of_lt (IsS66.lt (show IsS66 w0 _ g s0_0 s0_1 s0_2 from hi66)) : g ≠ gb270)); have NB270_0 := Aside0.mk ((by rw [hg]; exact Nat.ne_of_gt (IsS66.lt (show IsS66 w0 _ g s0_0 s0_1 s0_2 from hi66)) : gb270 ≠ g)); replace HI0 := ib66 HI0 hb; clear hb hbox hg) | ((with_reducible refine gc 37 ?_); refine gl (some 5) Tryz.func37 #[.pointer (some ⟨g, 0, none⟩), .int .i64 5] ?_; (with_reducible refine (spec_l1Cur_pick.calls g s0_0 s0_1 s0_2 5 t271 t272 t273 w0 _ ?_ ?_ A2.out).mono ?_); exact hi66; exact hb66; rintro e w8 ⟨rfl, hi, hb, hk⟩; refine ⟨_, rfl, ?_⟩; replace BK270 := kb hk BK270 NB270_0; replace HK := kt HK hk; replace HB := Aside0.mk (hb); replace HI0 := Aside0.mk (hi); (try clear hb)) | ((with_reducible refine gc 37 ?_); refine gl (some 7) Tryz.func37 #[.pointer (some ⟨g, 0, none⟩), .int .i64 9] ?_; (with_reducible refine (spec_l1Cur_pick.calls g s0_0 t272 t273 9 t274 t275 t276 w0 _ ?_ ?_ A3.out).mono ?_); exact hi66; exact hb66; rintro e w9 ⟨rfl, hi, hb, hk⟩; refine ⟨_, rfl, ?_⟩; replace BK270 := kb hk BK270 NB270_0; replace HK := kt HK hk; replace HB := Aside0.mk (hb); replace HI0 := Aside0.mk (hi); (try clear hb)) | ((with_reducible refine gc 37 ?_); refine gl (some 11) Tryz.func37 #[.pointer (some ⟨g, 0, none⟩), .int .i64 4] ?_; (with_reducible refine (spec_l1Cur_pick.calls g s0_0 t275 t276 4 t277 t278 t279 w0 _ ?_ ?_ A4.out).mono ?_); exact hi66; exact hb66; rintro e w10 ⟨rfl, hi, hb, hk⟩; refine ⟨_, rfl, ?_⟩; replace BK270 := kb hk BK270 NB270_0; replace HK := kt HK hk; replace HB := Aside0.mk (hb); replace HI0 := Aside0.mk (hi); (try clear hb)) | ((with_reducible refine gc 37 ?_); refine gl (some 13) Tryz.func37 #[.pointer (some ⟨g, 0, none⟩), .int .i64 9] ?_; (with_reducible refine (spec_l1Cur_pick.calls g s0_0 t278 t279 9 t280 t281 t282 w0 _ ?_ ?_ A5.out).mono ?_); exact hi66; exact hb66; rintro e w11 ⟨rfl, hi, hb, hk⟩; refine ⟨_, rfl, ?_⟩; replace BK270 := kb hk BK270 NB270_0; replace HK := kt HK hk; replace HB := Aside0.mk (hb); replace HI0 := Aside0.mk (hi); (try clear hb)) | ((with_reducible refine gd 3 ?_); refine bx 3 37 #[.int .i64 0, .int .i64 0, .int .i64 0, .int .i64 0] ?_; intro gb283 hg w12 hbox hb; replace HB := bt66 HB hb; have BK283 := hbox; have GW283 := Aside0.mk ((by rw [hg]; exact (keep_size (w := w) (g := g) (row := none) hkk) : w.heap.size ≤ gb283)); have GE283 := Aside0.mk ((Nat.le_trans HW0.out (by rw [hg]; exact (keep_size (w := w) (g := g) (row := none) hkk) : w.heap.size ≤ gb283) : w0.heap.size ≤ gb283)); replace HK := kt HK (KeepBut.of_below hb g none); have ⟨NB270_283, NB283_270⟩ := nn BK270 hg; replace BK270 := nk BK270 hb; have NB0_283 := Aside0.mk ((by rw [hg]; exact Nat.ne_of_lt (IsS66.lt (show IsS66 w0 _ g s0_0 t281 t282 from hi66)) : g ≠ gb283)); have NB283_0 := Aside0.mk ((by rw [hg]; exact Nat.ne_of_gt (IsS66.lt (show IsS66 w0 _ g s0_0 t281 t282 from hi66)) : gb283 ≠ g)); replace HI0 := ib66 HI0 hb; clear hb hbox hg; have hnb13 := NB283_270.out; have hnc13 := NB270_283.out; have hnb14 := NB283_0.out; have hnc14 := NB0_283.out; obtain ⟨hcz15_0, hcz15_1, hcz15_2, hcz15_3, hfz15_0, hfz15_1, hfz15_2, hfz15_3⟩ := z4 BK283))
 (try simp only [Act.put, List.setIfInBounds_toArray, List.set_cons_zero, List.set_cons_succ])
 go_cut [28] (fun v28 wc => ∃ (kq : Nat) (x28_5 : Bool) (x1001_5 : Int) (x1002_5 : Int), v28 = .bool x28_5 ∧ Aside0 (spec_l1Cur_clue.j0 kq x28_5 s0_0 x1001_5 x1002_5 (wrap64 (t271 + (wrap64 (Int.tdiv t274 8)))) 0 0 (wrap64 (t277 - (wrap64 (Int.tdiv t280 8)))) = some (r1, r2, r3, r4, r5, r6)) ∧ Aside0 (kq ≤ k) ∧ Aside0 (wc.heap[gb270]? = some (.cells #[.int .i64 0, .int .i64 0, .int .i64 0, .int .i64 0] 37 (0, 0))) ∧ Aside0 (wc.heap[gb283]? = some (.cells #[.int .i64 (wrap64 (t271 + (wrap64 (Int.tdiv t274 8)))), .int .i64 0, .int .i64 0, .int .i64 (wrap64 (t277 - (wrap64 (Int.tdiv t280 8))))] 37 (0, 0))) ∧ Aside0 (IsS66 w0 wc g s0_0 x1001_5 x1002_5) ∧ Aside0 (KeepBut w wc g none) ∧ Aside0 (Below w0.heap.size w0 wc))
 case first =>
  have H := HC6.out
  clear HC6
  by_cases c16 : (wrap64 (t271 + (wrap64 (Int.tdiv t274 8)))) = 0
  ·rw [if_pos c16] at H
   have c16b0 : ((wrap64 (t271 + (wrap64 (Int.tdiv t274 8)))) == 0) = true := beq_iff_eq.mpr c16
   have c16b1 : ((wrap64 (t271 + (wrap64 (Int.tdiv t274 8)))) != 0) = false := bne_eq_false_iff_eq.mpr c16
   clear c16
   (first | rw [c16b0] | rw [@decide_eq_true _ _ (of_decide_eq_true c16b1)] | rw [@decide_eq_false _ _ (of_decide_eq_false c16b1)] | (simp only [i64_w, i32_w]; rw [c16b0]) | skip)
   have H' := Aside0.mk H
   clear H
   have hnb17 := NB283_270.out
   have hnc17 := NB270_283.out
   have hnb18 := nb NB283_0
   obtain ⟨hcz19_0, hcz19_1, hcz19_2, hcz19_3, hfz19_0, hfz19_1, hfz19_2, hfz19_3⟩ := z4 BK283
   go_wp2
   go_meet
   case rel => exact ⟨_, (true), (t281), (t282), (rs), H', ⟨by first | omega | exact Nat.le_refl _⟩, ⟨pf BK270⟩, ⟨pz BK283⟩, ⟨hi66⟩, ⟨hkk⟩, ⟨hb66⟩⟩
  rw [if_neg c16] at H
  have c16b0 : ((wrap64 (t271 + (wrap64 (Int.tdiv t274 8)))) == 0) = false := beq_eq_false_iff_ne.mpr c16
  have c16b1 : ((wrap64 (t271 + (wrap64 (Int.tdiv t274 8)))) != 0) = true := bne_iff_ne.mpr c16
  (first | rw [c16b0] | rw [@decide_eq_true _ _ (of_decide_eq_true c16b1)] | rw [@decide_eq_false _ _ (of_decide_eq_false c16b1)] | (simp only [i64_w, i32_w]; rw [c16b0]) | skip)
  by_cases c20 : (wrap64 (t271 + (wrap64 (Int.tdiv t274 8)))) = 4
  ·rw [if_pos c20] at H
   have c20b0 : ((wrap64 (t271 + (wrap64 (Int.tdiv t274 8)))) == 4) = true := beq_iff_eq.mpr c20
   have c20b1 : ((wrap64 (t271 + (wrap64 (Int.tdiv t274 8)))) != 4) = false := bne_eq_false_iff_eq.mpr c20
   clear c20
   have H' := Aside0.mk H
   clear H
   have hnb21 := nb NB283_270
   have hnb22 := nb NB283_0
   obtain ⟨hcz23_0, hcz23_1, hcz23_2, hcz23_3, hfz23_0, hfz23_1, hfz23_2, hfz23_3⟩ := z4 BK283
   go_wp2
   go_meet
   case rel => exact ⟨_, (true), (t281), (t282), (rs), H', ⟨by first | omega | exact Nat.le_refl _⟩, ⟨pf BK270⟩, ⟨pz BK283⟩, ⟨hi66⟩, ⟨hkk⟩, ⟨hb66⟩⟩
  rw [if_neg c20] at H
  have c20b0 : ((wrap64 (t271 + (wrap64 (Int.tdiv t274 8)))) == 4) = false := beq_eq_false_iff_ne.mpr c20
  have c20b1 : ((wrap64 (t271 + (wrap64 (Int.tdiv t274 8)))) != 4) = true := bne_iff_ne.mpr c20
  obtain ⟨⟨t284, t285, t286⟩, A24, H⟩ := ob H
  (try dsimp only at H)
  have H' := Aside0.mk H
  clear H
  have hnb25 := nb NB283_270
  have hnb26 := nb NB283_0
  obtain ⟨hcz27_0, hcz27_1, hcz27_2, hcz27_3, hfz27_0, hfz27_1, hfz27_2, hfz27_3⟩ := z4 BK283
  go_wp2_with (first | (go_at_call 33; (with_reducible refine (spec_l1Cur_one.calls g s0_0 t281 t282 10 t284 t285 t286 w0 _ ?_ ?_ A24.out).mono ?_); exact hi66; exact hb66; rintro e w28 ⟨rfl, hi, hb, hk⟩; replace BK270 := kb hk BK270 NB270_0; replace BK283 := kz hk (.cells #[.int .i64 (wrap64 (t271 + (wrap64 (Int.tdiv t274 8)))), .int .i64 0, .int .i64 0, .int .i64 (wrap64 (t277 - (wrap64 (Int.tdiv t280 8))))] 37 (0, 0)) BK283 NB283_0; replace HK := kt HK hk; replace HB := Aside0.mk (hb); replace HI0 := Aside0.mk (hi); (try clear hb)))
  go_meet
  case rel => exact ⟨_, (t284), (t285), (t286), (rs), H', ⟨by first | omega | exact Nat.le_refl _⟩, ⟨pk BK270⟩, ⟨pk BK283⟩, ⟨hi66⟩, ⟨hkk⟩, ⟨hb66⟩⟩
 case rest =>
  clear HC6
  try clear c1
  try clear c2
  try clear p2
  try clear c3
  try clear c6
  try clear p6
  try clear c13
  try clear c14
  try clear c16
  try clear c16b0
  try clear c16b1
  try clear c17
  try clear c18
  try clear c20
  try clear c20b0
  try clear c20b1
  try clear c21
  try clear c22
  try clear c25
  try clear c26
  try clear hcz15_0
  try clear hcz15_1
  try clear hcz15_2
  try clear hcz15_3
  try clear hcz19_0
  try clear hcz19_1
  try clear hcz19_2
  try clear hcz19_3
  try clear hcz23_0
  try clear hcz23_1
  try clear hcz23_2
  try clear hcz23_3
  try clear hcz27_0
  try clear hcz27_1
  try clear hcz27_2
  try clear hcz27_3
  try clear hfz15_0
  try clear hfz15_1
  try clear hfz15_2
  try clear hfz15_3
  try clear hfz19_0
  try clear hfz19_1
  try clear hfz19_2
  try clear hfz19_3
  try clear hfz23_0
  try clear hfz23_1
  try clear hfz23_2
  try clear hfz23_3
  try clear hfz27_0
  try clear hfz27_1
  try clear hfz27_2
  try clear hfz27_3
  obtain ⟨kq, x28_5, x1001_5, x1002_5, rfl, HA, HJ5, BK270, BK283, HI0, HK, HB⟩ := hcut
  cases kq with
  | zero => exact absurd HA.out (by simp [spec_l1Cur_clue.j0])
  | succ kj5 =>
   have H := HA.out
   clear HA
   simp only [spec_l1Cur_clue.j0] at H
   have HC29 := Aside0.mk H
   clear H
   go_upto_if 28 with (fail)
   go_cut [] (fun wc => ∃ (kq : Nat) (x1001_28 : Int) (x1002_28 : Int) (x284001_28 : Int), Aside0 (spec_l1Cur_clue.j1 kq s0_0 x1001_28 x1002_28 (wrap64 (t271 + (wrap64 (Int.tdiv t274 8)))) x284001_28 0 (wrap64 (t277 - (wrap64 (Int.tdiv t280 8)))) = some (r1, r2, r3, r4, r5, r6)) ∧ Aside0 (kq ≤ kj5) ∧ Aside0 (wc.heap[gb270]? = some (.cells #[.int .i64 0, .int .i64 0, .int .i64 0, .int .i64 0] 37 (0, 0))) ∧ Aside0 (wc.heap[gb283]? = some (.cells #[.int .i64 (wrap64 (t271 + (wrap64 (Int.tdiv t274 8)))), .int .i64 x284001_28, .int .i64 0, .int .i64 (wrap64 (t277 - (wrap64 (Int.tdiv t280 8))))] 37 (0, 0))) ∧ Aside0 (IsS66 w0 wc g s0_0 x1001_28 x1002_28) ∧ Aside0 (KeepBut w wc g none) ∧ Aside0 (Below w0.heap.size w0 wc))
   case first =>
    have H := HC29.out
    clear HC29
    by_cases c30 : x28_5 = true
    ·subst c30
     rw [if_pos rfl] at H
     obtain ⟨⟨t287, t288, t289⟩, A31, H⟩ := ob H
     (try dsimp only at H)
     obtain ⟨⟨t290, t291, t292⟩, A32, H⟩ := ob H
     (try dsimp only at H)
     have H' := Aside0.mk H
     clear H
     go_wp2_with (first | ((with_reducible refine gc 37 ?_); refine gl (some 30) Tryz.func37 #[.pointer (some ⟨g, 0, none⟩), .int .i64 6] ?_; (with_reducible refine (spec_l1Cur_pick.calls g s0_0 x1001_5 x1002_5 6 t287 t288 t289 w0 _ ?_ ?_ A31.out).mono ?_); exact hi66; exact hb66; rintro e w33 ⟨rfl, hi, hb, hk⟩; refine ⟨_, rfl, ?_⟩; replace BK270 := kb hk BK270 NB270_0; replace BK283 := kb hk BK283 NB283_0; replace HK := kt HK hk; replace HB := Aside0.mk (hb); replace HI0 := Aside0.mk (hi); (try clear hb)) | ((with_reducible refine gc 37 ?_); refine gl (some 32) Tryz.func37 #[.pointer (some ⟨g, 0, none⟩), .int .i64 9] ?_; (with_reducible refine (spec_l1Cur_pick.calls g s0_0 t288 t289 9 t290 t291 t292 w0 _ ?_ ?_ A32.out).mono ?_); exact hi66; exact hb66; rintro e w34 ⟨rfl, hi, hb, hk⟩; refine ⟨_, rfl, ?_⟩; replace BK270 := kb hk BK270 NB270_0; replace BK283 := kb hk BK283 NB283_0; replace HK := kt HK hk; replace HB := Aside0.mk (hb); replace HI0 := Aside0.mk (hi); (try clear hb); have hnb35 := nb NB283_270; have hnb36 := nb NB283_0; obtain ⟨hcz37_0, hcz37_1, hcz37_2, hcz37_3, hfz37_0, hfz37_1, hfz37_2, hfz37_3⟩ := z4 BK283))
     go_meet
     case rel => exact ⟨_, (t291), (t292), (wrap64 (t287 - (wrap64 (Int.tdiv t290 8)))), H', ⟨by have := HJ5.out; first | omega | exact Nat.le_refl _⟩, ⟨pf BK270⟩, ⟨pz BK283⟩, ⟨hi66⟩, ⟨hkk⟩, ⟨hb66⟩⟩
    replace c30 := Bool.eq_false_iff.mpr c30
    subst c30
    rw [if_neg (show ¬ (false = true) by decide)] at H
    have H' := Aside0.mk H
    clear H
    go_wp2
    go_meet
    case rel => exact ⟨_, (x1001_5), (x1002_5), (0), H', ⟨by have := HJ5.out; first | omega | exact Nat.le_refl _⟩, ⟨pk BK270⟩, ⟨pk BK283⟩, ⟨hi66⟩, ⟨hkk⟩, ⟨hb66⟩⟩
   case rest =>
    clear HC29
    try clear c1
    try clear c2
    try clear p2
    try clear c3
    try clear c6
    try clear p6
    try clear c13
    try clear c14
    try clear c16
    try clear c16b0
    try clear c16b1
    try clear c17
    try clear c18
    try clear c20
    try clear c20b0
    try clear c20b1
    try clear c21
    try clear c22
    try clear c25
    try clear c26
    try clear c30
    try clear c35
    try clear c36
    try clear c37
    try clear hcz15_0
    try clear hcz15_1
    try clear hcz15_2
    try clear hcz15_3
    try clear hcz19_0
    try clear hcz19_1
    try clear hcz19_2
    try clear hcz19_3
    try clear hcz23_0
    try clear hcz23_1
    try clear hcz23_2
    try clear hcz23_3
    try clear hcz27_0
    try clear hcz27_1
    try clear hcz27_2
    try clear hcz27_3
    try clear hcz37_0
    try clear hcz37_1
    try clear hcz37_2
    try clear hcz37_3
    try clear hfz15_0
    try clear hfz15_1
    try clear hfz15_2
    try clear hfz15_3
    try clear hfz19_0
    try clear hfz19_1
    try clear hfz19_2
    try clear hfz19_3
    try clear hfz23_0
    try clear hfz23_1
    try clear hfz23_2
    try clear hfz23_3
    try clear hfz27_0
    try clear hfz27_1
    try clear hfz27_2
    try clear hfz27_3
    try clear hfz37_0
    try clear hfz37_1
    try clear hfz37_2
    try clear hfz37_3
    try clear p2
    try clear p6
    obtain ⟨kq, x1001_28, x1002_28, x284001_28, HA, HJ28, BK270, BK283, HI0, HK, HB⟩ := hcut
    cases kq with
    | zero => exact absurd HA.out (by simp [spec_l1Cur_clue.j1])
    | succ kj28 =>
     have H := HA.out
     clear HA
     simp only [spec_l1Cur_clue.j1] at H
     by_cases c38 : (wrap64 (t271 + (wrap64 (Int.tdiv t274 8)))) = 0
     ·rw [if_pos c38] at H
      have c38b0 : ((wrap64 (t271 + (wrap64 (Int.tdiv t274 8)))) == 0) = true := beq_iff_eq.mpr c38
      have c38b1 : ((wrap64 (t271 + (wrap64 (Int.tdiv t274 8)))) != 0) = false := bne_eq_false_iff_eq.mpr c38
      clear c38
      obtain ⟨⟨t293, t294, t295⟩, A39, H⟩ := ob H
      (try dsimp only at H)
      simp only [Option.some.injEq, Prod.mk.injEq] at H
      obtain ⟨rfl, rfl, rfl, rfl, rfl, rfl⟩ := H
      have hnb40 := nb NB283_270
      have hnb41 := nb NB283_0
      have hcz42_0 : wc.cell? ⟨gb283, 0, none⟩ = some (.int .i64 (wrap64 (t271 + (wrap64 (Int.tdiv t274 8))))) := ec BK283
      have hcz42_1 : wc.cell? ⟨gb283, 1, none⟩ = some (.int .i64 x284001_28) := ec BK283
      have hcz42_2 : wc.cell? ⟨gb283, 2, none⟩ = some (.int .i64 0) := ec BK283
      have hcz42_3 : wc.cell? ⟨gb283, 3, none⟩ = some (.int .i64 (wrap64 (t277 - (wrap64 (Int.tdiv t280 8))))) := ec BK283
      have hfz42_0 := blk_frozen BK283.out 0
      have hfz42_1 := blk_frozen BK283.out 1
      have hfz42_2 := blk_frozen BK283.out 2
      have hfz42_3 := blk_frozen BK283.out 3
      go_wp2_with (first | ((with_reducible refine gc 37 ?_); refine gl (some 44) Tryz.func37 #[.pointer (some ⟨g, 0, none⟩), .int .i64 4] ?_; (with_reducible refine (spec_l1Cur_pick.calls g s0_0 x1001_28 x1002_28 4 t293 t294 t295 w0 _ ?_ ?_ A39.out).mono ?_); exact hi66; exact hb66; rintro e w43 ⟨rfl, hi, hb, hk⟩; refine ⟨_, rfl, ?_⟩; replace BK270 := kb hk BK270 NB270_0; replace BK283 := kb hk BK283 NB283_0; replace HK := kt HK hk; replace HB := Aside0.mk (hb); replace HI0 := Aside0.mk (hi); (try clear hb); have hz44 := z4 BK283; have hnb45 := nb NB270_0; have hz46 := z4 BK270))
      refine bodyPost_ret (results_cell_row rfl _ _ gb270 37 #[.int .i64 (wrap64 (t271 + (wrap64 (Int.tdiv t274 8)))), .int .i64 x284001_28, .int .i64 t293, .int .i64 (wrap64 (t277 - (wrap64 (Int.tdiv t280 8))))] (0, 0) _ rfl (pz BK270) Tryz.underlying37 rfl (by kernel_rfl)) rfl ?_
      exact ⟨rs, by (try simp only [Int.add_zero]); exact hi66, hb66, hkk⟩
     rw [if_neg c38] at H
     have c38b0 : ((wrap64 (t271 + (wrap64 (Int.tdiv t274 8)))) == 0) = false := beq_eq_false_iff_ne.mpr c38
     have c38b1 : ((wrap64 (t271 + (wrap64 (Int.tdiv t274 8)))) != 0) = true := bne_iff_ne.mpr c38
     obtain ⟨⟨t296, t297, t298⟩, A47, H⟩ := ob H
     (try dsimp only at H)
     by_cases c48 : t296 = true
     ·subst c48
      rw [if_pos rfl] at H
      obtain ⟨⟨t299, t300, t301⟩, A49, H⟩ := ob H
      (try dsimp only at H)
      simp only [Option.some.injEq, Prod.mk.injEq] at H
      obtain ⟨rfl, rfl, rfl, rfl, rfl, rfl⟩ := H
      have hnb50 := nb NB283_270
      have hnb51 := nb NB283_0
      have hcz52_0 : wc.cell? ⟨gb283, 0, none⟩ = some (.int .i64 (wrap64 (t271 + (wrap64 (Int.tdiv t274 8))))) := ec BK283
      have hcz52_1 : wc.cell? ⟨gb283, 1, none⟩ = some (.int .i64 x284001_28) := ec BK283
      have hcz52_2 : wc.cell? ⟨gb283, 2, none⟩ = some (.int .i64 0) := ec BK283
      have hcz52_3 : wc.cell? ⟨gb283, 3, none⟩ = some (.int .i64 (wrap64 (t277 - (wrap64 (Int.tdiv t280 8))))) := ec BK283
      have hfz52_0 := blk_frozen BK283.out 0
      have hfz52_1 := blk_frozen BK283.out 1
      have hfz52_2 := blk_frozen BK283.out 2
      have hfz52_3 := blk_frozen BK283.out 3
      go_wp2_with (first | (go_at_call 33; (with_reducible refine (spec_l1Cur_one.calls g s0_0 x1001_28 x1002_28 10 true t297 t298 w0 _ ?_ ?_ A47.out).mono ?_); exact hi66; exact hb66; rintro e w53 ⟨rfl, hi, hb, hk⟩; replace BK270 := kb hk BK270 NB270_0; replace BK283 := kb hk BK283 NB283_0; replace HK := kt HK hk; replace HB := Aside0.mk (hb); replace HI0 := Aside0.mk (hi); (try clear hb)) | ((with_reducible refine gc 37 ?_); refine gl (some 44) Tryz.func37 #[.pointer (some ⟨g, 0, none⟩), .int .i64 4] ?_; (with_reducible refine (spec_l1Cur_pick.calls g s0_0 t297 t298 4 t299 t300 t301 w0 _ ?_ ?_ A49.out).mono ?_); exact hi66; exact hb66; rintro e w54 ⟨rfl, hi, hb, hk⟩; refine ⟨_, rfl, ?_⟩; replace BK270 := kb hk BK270 NB270_0; replace BK283 := kb hk BK283 NB283_0; replace HK := kt HK hk; replace HB := Aside0.mk (hb); replace HI0 := Aside0.mk (hi); (try clear hb); have hz55 := z4 BK283; have hnb56 := nb NB270_0; have hz57 := z4 BK270))
      refine bodyPost_ret (results_cell_row rfl _ _ gb270 37 #[.int .i64 (wrap64 (t271 + (wrap64 (Int.tdiv t274 8)))), .int .i64 x284001_28, .int .i64 t299, .int .i64 (wrap64 (t277 - (wrap64 (Int.tdiv t280 8))))] (0, 0) _ rfl (pz BK270) Tryz.underlying37 rfl (by kernel_rfl)) rfl ?_
      exact ⟨rs, by (try simp only [Int.add_zero]); exact hi66, hb66, hkk⟩
     replace c48 := Bool.eq_false_iff.mpr c48
     subst c48
     rw [if_neg (show ¬ (false = true) by decide)] at H
     simp only [Option.some.injEq, Prod.mk.injEq] at H
     obtain ⟨rfl, rfl, rfl, rfl, rfl, rfl⟩ := H
     have hnb58 := nb NB283_270
     have hnb59 := nb NB283_0
     have hcz60_0 : wc.cell? ⟨gb283, 0, none⟩ = some (.int .i64 (wrap64 (t271 + (wrap64 (Int.tdiv t274 8))))) := ec BK283
     have hcz60_1 : wc.cell? ⟨gb283, 1, none⟩ = some (.int .i64 x284001_28) := ec BK283
     have hcz60_2 : wc.cell? ⟨gb283, 2, none⟩ = some (.int .i64 0) := ec BK283
     have hcz60_3 : wc.cell? ⟨gb283, 3, none⟩ = some (.int .i64 (wrap64 (t277 - (wrap64 (Int.tdiv t280 8))))) := ec BK283
     have hfz60_0 := blk_frozen BK283.out 0
     have hfz60_1 := blk_frozen BK283.out 1
     have hfz60_2 := blk_frozen BK283.out 2
     have hfz60_3 := blk_frozen BK283.out 3
     go_wp2_with (first | (go_at_call 33; (with_reducible refine (spec_l1Cur_one.calls g s0_0 x1001_28 x1002_28 10 false t297 t298 w0 _ ?_ ?_ A47.out).mono ?_); exact hi66; exact hb66; rintro e w61 ⟨rfl, hi, hb, hk⟩; replace BK270 := kb hk BK270 NB270_0; replace BK283 := kb hk BK283 NB283_0; replace HK := kt HK hk; replace HB := Aside0.mk (hb); replace HI0 := Aside0.mk (hi); (try clear hb); have hz62 := z4 BK283; have hnb63 := nb NB270_0; have hz64 := z4 BK270))
     refine bodyPost_ret (results_cell_row rfl _ _ gb270 37 #[.int .i64 (wrap64 (t271 + (wrap64 (Int.tdiv t274 8)))), .int .i64 x284001_28, .int .i64 0, .int .i64 (wrap64 (t277 - (wrap64 (Int.tdiv t280 8))))] (0, 0) _ rfl (pz BK270) Tryz.underlying37 rfl (by kernel_rfl)) rfl ?_
     exact ⟨rs, by (try simp only [Int.add_zero]); exact hi66, hb66, hkk⟩

/-! ### spec_l1Cur_surePuzzle: function 78 -/
def spec_l1Cur_surePuzzle.f (k : Nat) (s0_0 : List Int) (s0_1 : Int) (s0_2 : Int) (a1 : Int) : Option (Int × (List (S37)) × Int × Int) := (spec_l1Cur_hidden.f k s0_0 s0_1 s0_2).bind fun bt303 => ((spec_l1Cur_pick.f s0_0 bt303.2.1 bt303.2.2 (wrap64 (a1 + 1))).bind fun bt306 => ((spec_l1Cur_pick.f s0_0 bt306.2.1 bt306.2.2 10000).bind fun bt309 => ((spec_MakePuzzle.f k bt303.1 bt306.1 bt309.1).bind fun bt312 => (some (bt312.1, bt312.2.1, bt309.2.1, bt309.2.2)))))
theorem spec_l1Cur_surePuzzle.mono : ∀ a0 a1 a2 a3 k, LeO (spec_l1Cur_surePuzzle.f k a0 a1 a2 a3) (spec_l1Cur_surePuzzle.f (k + 1) a0 a1 a2 a3) := by
  intro a0 a1 a2 a3 k
  unfold spec_l1Cur_surePuzzle.f
  repeat' first
      | (with_reducible exact spec_MakePuzzle.mono _ _ _ _)
      | (with_reducible exact spec_l1Cur_hidden.mono _ _ _ _)
      | (with_reducible exact LeO.refl _)
      | (with_reducible exact LeO.none _)
      | (with_reducible refine LeO.ite ?_ ?_)
      | (with_reducible refine LeO.bind ?_ (fun _ => ?_))
      | exact spec_MakePuzzle.mono _ _ _ _
      | exact spec_l1Cur_hidden.mono _ _ _ _
      | exact LeO.none _
      | refine LeO.ite ?_ ?_
      | refine LeO.bind ?_ (fun _ => ?_)
set_option maxHeartbeats 8000000 in
set_option maxRecDepth 100000 in
theorem spec_l1Cur_surePuzzle.calls (k : Nat) (g : Nat) (s0_0 : List Int) (s0_1 : Int) (s0_2 : Int) (a1 : Int) (r1 : Int) (r2 : List (S37)) (r3 : Int) (r4 : Int) (w0 w : World) (hI : IsS66 w0 w g s0_0 s0_1 s0_2) (hB : Below w0.heap.size w0 w) (h : spec_l1Cur_surePuzzle.f k s0_0 s0_1 s0_2 a1 = some (r1, r2, r3, r4)) :
  Calls Tryz.prog 78 #[.pointer (some ⟨g, 0, none⟩), .int .i64 a1] w fun e w' => ∃ v1_ : Value, e = .returned (.agg #[.int .i64 r1, v1_]) ∧ Kd.R k37 37 w' w.heap.size (fun _ => True) v1_ r2 ∧ IsS66 w0 w' g s0_0 r3 r4 ∧ Below w0.heap.size w0 w' ∧ KeepBut w w' g none := by
 have hu28 := Tryz.underlying28
 have HI0 := Aside0.mk hI
 have HK := Aside0.mk (KeepBut.refl w g none)
 have HL := Aside0.mk hB.size
 clear hI
 have HW0 := Aside0.mk hB.size
 have HB := Aside0.mk hB
 clear hB
 unfold spec_l1Cur_surePuzzle.f at h
 have H := h
 clear h
 obtain ⟨⟨t303, t304, t305⟩, A3, H⟩ := ob H
 (try dsimp only at H)
 obtain ⟨⟨t306, t307, t308⟩, A4, H⟩ := ob H
 (try dsimp only at H)
 obtain ⟨⟨t309, t310, t311⟩, A5, H⟩ := ob H
 (try dsimp only at H)
 obtain ⟨⟨t312, t313, t316⟩, A6, H⟩ := ob H
 (try dsimp only at H)
 simp only [Option.some.injEq, Prod.mk.injEq] at H
 obtain ⟨rfl, rfl, rfl, rfl⟩ := H
 go_enter Tryz.func78, Tryz.ntmps78
 go_wp2_with (first | ((with_reducible refine gd 4 ?_); refine bx 4 28 #[.int .i64 0, .slice none 0 0] ?_; intro gb302 hg w7 hbox hb; replace HB := bt66 HB hb; have BK302 := hbox; have GW302 := Aside0.mk ((by rw [hg]; exact (keep_size (w := w) (g := g) (row := none) hkk) : w.heap.size ≤ gb302)); have GE302 := Aside0.mk ((Nat.le_trans HW0.out (by rw [hg]; exact (keep_size (w := w) (g := g) (row := none) hkk) : w.heap.size ≤ gb302) : w0.heap.size ≤ gb302)); replace HK := kt HK (KeepBut.of_below hb g none); have NB0_302 := Aside0.mk ((by rw [hg]; exact Nat.ne_of_lt (IsS66.lt (show IsS66 w0 _ g s0_0 s0_1 s0_2 from hi66)) : g ≠ gb302)); have NB302_0 := Aside0.mk ((by rw [hg]; exact Nat.ne_of_gt (IsS66.lt (show IsS66 w0 _ g s0_0 s0_1 s0_2 from hi66)) : gb302 ≠ g)); replace HI0 := ib66 HI0 hb; clear hb hbox hg) | ((with_reducible refine gc 36 ?_); refine gl (some 9) Tryz.func36 #[.pointer (some ⟨g, 0, none⟩)] ?_; (with_reducible refine (spec_l1Cur_hidden.calls k g s0_0 s0_1 s0_2 t303 t304 t305 w0 _ ?_ ?_ A3.out).mono ?_); exact hi66; exact hb66; rintro e w8 ⟨rfl, hi, hb, hk⟩; refine ⟨_, rfl, ?_⟩; replace BK302 := kb hk BK302 NB302_0; replace HK := kt HK hk; replace HB := Aside0.mk (hb); replace HI0 := Aside0.mk (hi); (try clear hb)) | ((with_reducible refine gc 37 ?_); refine gl (some 13) Tryz.func37 #[.pointer (some ⟨g, 0, none⟩), .int .i64 (wrap64 (a1 + 1))] ?_; (with_reducible refine (spec_l1Cur_pick.calls g s0_0 t304 t305 (wrap64 (a1 + 1)) t306 t307 t308 w0 _ ?_ ?_ A4.out).mono ?_); exact hi66; exact hb66; rintro e w9 ⟨rfl, hi, hb, hk⟩; refine ⟨_, rfl, ?_⟩; replace BK302 := kb hk BK302 NB302_0; replace HK := kt HK hk; replace HB := Aside0.mk (hb); replace HI0 := Aside0.mk (hi); (try clear hb)) | ((with_reducible refine gc 37 ?_); refine gl (some 15) Tryz.func37 #[.pointer (some ⟨g, 0, none⟩), .int .i64 10000] ?_; (with_reducible refine (spec_l1Cur_pick.calls g s0_0 t307 t308 10000 t309 t310 t311 w0 _ ?_ ?_ A5.out).mono ?_); exact hi66; exact hb66; rintro e w10 ⟨rfl, hi, hb, hk⟩; refine ⟨_, rfl, ?_⟩; replace BK302 := kb hk BK302 NB302_0; replace HK := kt HK hk; replace HB := Aside0.mk (hb); replace HI0 := Aside0.mk (hi); (try clear hb)) | ((with_reducible refine gc 7 ?_); refine gl (some 16) Tryz.func7 #[.string t303, .int .i64 t306, .int .i64 t309] ?_; (with_reducible refine (spec_MakePuzzle.calls k t303 t306 t309 t312 t313 t316 _ A6.out).mono ?_); rintro e w11 ⟨v314, rfl, ho0, hb⟩; refine ⟨_, rfl, ?_⟩; have HO315 := Aside0.mk (Kd.R_lower ho0 (keep_size (w := w) (g := g) (row := none) hkk)); replace BK302 := nk BK302 hb; replace HK := kt HK (KeepBut.of_below hb g none); replace HB := bt66 HB hb; replace HI0 := ib66 HI0 hb; (try clear hb); (try clear ho0)) | ((with_reducible refine gd 5 ?_); refine bx 5 28 #[.int .i64 0, .slice none 0 0] ?_; intro gb317 hg w12 hbox hb; replace HO315 := rl HO315 hb; replace HB := bt66 HB hb; have BK317 := hbox; have GW317 := Aside0.mk ((by rw [hg]; exact (keep_size (w := w) (g := g) (row := none) hkk) : w.heap.size ≤ gb317)); have GE317 := Aside0.mk ((Nat.le_trans HW0.out (by rw [hg]; exact (keep_size (w := w) (g := g) (row := none) hkk) : w.heap.size ≤ gb317) : w0.heap.size ≤ gb317)); replace HK := kt HK (KeepBut.of_below hb g none); have ⟨NB302_317, NB317_302⟩ := nn BK302 hg; replace BK302 := nk BK302 hb; have NB0_317 := Aside0.mk ((by rw [hg]; exact Nat.ne_of_lt (IsS66.lt (show IsS66 w0 _ g s0_0 t310 t311 from hi66)) : g ≠ gb317)); have NB317_0 := Aside0.mk ((by rw [hg]; exact Nat.ne_of_gt (IsS66.lt (show IsS66 w0 _ g s0_0 t310 t311 from hi66)) : gb317 ≠ g)); replace HI0 := ib66 HI0 hb; clear hb hbox hg; have hnb13 := NB317_302.out; have hnc13 := NB302_317.out; have hnb14 := NB317_0.out; have hnc14 := NB0_317.out; obtain ⟨hcz15_0, hcz15_1, hfz15_0, hfz15_1⟩ := z2 BK317; obtain ⟨Ao16, co16, eo16⟩ := Kd.R_slice HO315.out; subst eo16; have hnb17 := NB302_0.out; have hnc17 := NB0_302.out; have hz18 := z2 BK302))
 refine bodyPost_ret (results_cell_row rfl _ _ gb302 28 #[.int .i64 t312, .slice Ao16 t313.length co16] (0, 0) _ rfl (pz BK302) Tryz.underlying28 rfl (by kernel_rfl)) rfl ?_
 exact ⟨_, rs, by (with_reducible repeat (first | apply Kd.R_alloc | apply Kd.R_drewN | apply Kd.R_drew)); exact Kd.R_mono (Kd.R_far (p := ⟨gb302, 1, none⟩) (Kd.R_far (p := ⟨gb302, 0, none⟩) (Kd.R_far (p := ⟨gb317, 1, none⟩) (Kd.R_far (p := ⟨gb317, 0, none⟩) (Kd.R_types (Kd.R_types HO315.out BK317.out (by decide)) BK302.out (by decide)) (fun _ hk => hk.1.2) (.int .i64 t312)) (fun _ hk => hk.1.2) (.slice Ao16 t313.length co16)) (fun _ hk => hk.2) (.int .i64 t312)) (fun _ hk => hk.2) (.slice Ao16 t313.length co16)) (fun _ hk => trivial), hi66, hb66, hkk⟩

end Go.Proofs.YthjbmojacgkdcaaGreatDoor.PFnRowsHidden
