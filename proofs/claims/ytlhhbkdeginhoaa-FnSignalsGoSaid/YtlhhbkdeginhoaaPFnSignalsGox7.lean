-- Laid by xprint, a program of this session that runs over the kit's print.
import Derived.Test.YtlhhbkdeginhoaaPFnSignalsGox0
import Derived.Test.YtlhhbkdeginhoaaPFnSignalsGox2
import Derived.Test.YtlhhbkdeginhoaaPFnSignalsGox4
import Derived.Test.YtlhhbkdeginhoaaPFnSignalsGox6
namespace Go.Proofs.Ytlhhbkdeginhoaa.PFnSignalsGo
open Go.RowKit Go.Proofs.YtlhhbkdeginhoaaW.PrintWords Go.Proofs.YtlhhbkdeginhoaaW.PrintLast Go.Proofs.YtlhhbkdeginhoaaW.PrintMore Go.Proofs.Ytlhhbkdeginhoaa.Sq
attribute [local go_sem] max2_int min2_int max_two min_two max_three min_three max_four min_four   -- for this text's walks alone
set_option linter.unusedVariables false
set_option linter.unusedSimpArgs false

/-! ### impl_FirstMeeting: function 14 -/
def impl_FirstMeeting.j0 : Nat → Int → Bool → Int → Bool → Int → Int → Bool → Int → Option (Int × Int × Bool)
  | 0, _, _, _, _, _, _, _, _ => none
  | k + 1, x0, x19, x275000, x275001, x275002, x276000, x276001, x276002 => if x19 = true then (some (0, 0, false)) else ((impl_firstMeeting.f k x0 x275000 x275001 x275002 x276000 x276001 x276002 0).bind fun t278 => (if t278 < 0 then (some (0, 0, false)) else ((impl_Signal_place.f x275000 x275001 x275002 x0 t278).bind fun t279 => (some (t278, t279, true)))))
def impl_FirstMeeting.f (k : Nat) (a0 : Int) (a1_0 : Int) (a1_1 : Bool) (a1_2 : Int) (a2_0 : Int) (a2_1 : Bool) (a2_2 : Int) : Option (Int × Int × Bool) := (impl_isSignal.f a0 a1_0 a1_1 a1_2).bind fun t276 => (if t276 = true then ((impl_isSignal.f a0 a2_0 a2_1 a2_2).bind fun t277 => (impl_FirstMeeting.j0 k a0 (!t277) a1_0 a1_1 a1_2 a2_0 a2_1 a2_2)) else (impl_FirstMeeting.j0 k a0 true a1_0 a1_1 a1_2 a2_0 a2_1 a2_2))
theorem impl_FirstMeeting.mono_l : ∀ k, (∀ y0 y1 y2 y3 y4 y5 y6 y7, LeO (impl_FirstMeeting.j0 k y0 y1 y2 y3 y4 y5 y6 y7) (impl_FirstMeeting.j0 (k + 1) y0 y1 y2 y3 y4 y5 y6 y7))
  | 0 => fun _ _ _ _ _ _ _ _ r h => by simp [impl_FirstMeeting.j0] at h
  | k + 1 => by
    have ih0 := impl_FirstMeeting.mono_l k
    · intro y0 y1 y2 y3 y4 y5 y6 y7
      unfold impl_FirstMeeting.j0
      repeat' first
      | (with_reducible exact ih0 _ _ _ _ _ _ _ _)
      | (with_reducible exact impl_firstMeeting.mono _ _ _ _ _ _ _ _ _)
      | (with_reducible exact LeO.refl _)
      | (with_reducible exact LeO.none _)
      | (with_reducible refine LeO.ite ?_ ?_)
      | (with_reducible refine LeO.bind ?_ (fun _ => ?_))
      | exact ih0 _ _ _ _ _ _ _ _
      | exact impl_firstMeeting.mono _ _ _ _ _ _ _ _ _
      | exact LeO.none _
      | refine LeO.ite ?_ ?_
      | refine LeO.bind ?_ (fun _ => ?_)
theorem impl_FirstMeeting.mono : ∀ a0 a1 a2 a3 a4 a5 a6 k, LeO (impl_FirstMeeting.f k a0 a1 a2 a3 a4 a5 a6) (impl_FirstMeeting.f (k + 1) a0 a1 a2 a3 a4 a5 a6) := by
  intro a0 a1 a2 a3 a4 a5 a6 k
  have ih0 := impl_FirstMeeting.mono_l k
  unfold impl_FirstMeeting.f
  repeat' first
      | (with_reducible exact ih0 _ _ _ _ _ _ _ _)
      | (with_reducible exact impl_firstMeeting.mono _ _ _ _ _ _ _ _ _)
      | (with_reducible exact LeO.refl _)
      | (with_reducible exact LeO.none _)
      | (with_reducible refine LeO.ite ?_ ?_)
      | (with_reducible refine LeO.bind ?_ (fun _ => ?_))
      | exact ih0 _ _ _ _ _ _ _ _
      | exact impl_firstMeeting.mono _ _ _ _ _ _ _ _ _
      | exact LeO.none _
      | refine LeO.ite ?_ ?_
      | refine LeO.bind ?_ (fun _ => ?_)
set_option maxHeartbeats 8000000 in
set_option maxRecDepth 100000 in
theorem impl_FirstMeeting.calls (k : Nat) (a0 : Int) (a1_0 : Int) (a1_1 : Bool) (a1_2 : Int) (a2_0 : Int) (a2_1 : Bool) (a2_2 : Int) (r1 : Int) (r2 : Int) (r3 : Bool) (w : World) (h : impl_FirstMeeting.f k a0 a1_0 a1_1 a1_2 a2_0 a2_1 a2_2 = some (r1, r2, r3)) :
  Calls Try.prog 14 #[.int .i64 a0, .agg #[.int .i64 a1_0, .bool a1_1, .int .i64 a1_2], .agg #[.int .i64 a2_0, .bool a2_1, .int .i64 a2_2]] w fun e w' => e = .returned (.tuple #[.int .i64 r1, .int .i64 r2, .bool r3]) ∧ Below w.heap.size w w' := by
 have hu25 := Try.underlying25
 have HB := Aside0.mk (Below.refl w.heap.size w)
 unfold impl_FirstMeeting.f at h
 have H := h
 clear h
 have HC4 := Aside0.mk H
 clear H
 go_enter Try.func14, Try.ntmps14
 go_upto_region 1 with (first | ((with_reducible refine gate_dst (N := 4) rfl ?_); refine bx 4 25 #[.int .i64 a1_0, .bool a1_1, .int .i64 a1_2] ?_; intro gb274 hg w5 hbox hb; have BK274 := hbox; have GW274 := gs hg; have GE274 := gs hg; replace HB := bs hb; clear hb hbox hg) | ((with_reducible refine gate_dst (N := 5) rfl ?_); refine bx 5 25 #[.int .i64 a2_0, .bool a2_1, .int .i64 a2_2] ?_; intro gb275 hg w6 hbox hb; have BK275 := hbox; have GW275 := gs hg; have GE275 := gs hg; replace HB := bs hb; have NB274_275 := nl BK274 hg; have NB275_274 := ng BK274 hg; replace BK274 := nk BK274 hb; clear hb hbox hg))
 (try simp only [Act.put, List.setIfInBounds_toArray, List.set_cons_zero, List.set_cons_succ])
 go_cut [19] (fun v19 wc => ∃ (kq : Nat) (x19_3 : Bool), v19 = .bool x19_3 ∧ Aside0 (impl_FirstMeeting.j0 kq a0 x19_3 a1_0 a1_1 a1_2 a2_0 a2_1 a2_2 = some (r1, r2, r3)) ∧ Aside0 (kq ≤ k) ∧ Aside0 (wc.heap[gb274]? = some (.cells #[.int .i64 a1_0, .bool a1_1, .int .i64 a1_2] 25 (0, 0))) ∧ Aside0 (wc.heap[gb275]? = some (.cells #[.int .i64 a2_0, .bool a2_1, .int .i64 a2_2] 25 (0, 0))) ∧ Aside0 (Below w.heap.size w wc))
 case first =>
  have H := HC4.out
  clear HC4
  replace H := Option.bind_eq_some_iff.mp H
  obtain ⟨t276, A70, H⟩ := H
  (try dsimp only at H)
  have A7 := Aside0.mk A70
  clear A70
  by_cases c8 : t276 = true
  ·subst c8
   rw [if_pos rfl] at H
   replace H := Option.bind_eq_some_iff.mp H
   obtain ⟨t277, A90, H⟩ := H
   (try dsimp only at H)
   have A9 := Aside0.mk A90
   clear A90
   have H' := Aside0.mk H
   clear H
   have hnb10 := NB274_275.out
   have hnc10 := NB275_274.out
   have hcz11_0 := bc BK274 0 (.int .i64 a1_0)
   have hcz11_1 := bc BK274 1 (.bool a1_1)
   have hcz11_2 := bc BK274 2 (.int .i64 a1_2)
   have hfz11_0 := blk_frozen BK274.out 0
   have hfz11_1 := blk_frozen BK274.out 1
   have hfz11_2 := blk_frozen BK274.out 2
   go_wp2_with (first | ((with_reducible refine gate_callee (f := 23) rfl ?_); refine gl (some 12) Try.func23 #[.int .i64 a0, .agg #[.int .i64 a1_0, .bool a1_1, .int .i64 a1_2]] ?_; (with_reducible refine (impl_isSignal.calls a0 a1_0 a1_1 a1_2 true _ A7.out).mono ?_); rintro e w12 ⟨rfl, hb⟩; refine ⟨_, rfl, ?_⟩; replace BK274 := nk BK274 hb; replace BK275 := nk BK275 hb; replace HB := bs hb; (try clear hb); have hcz13_0 := bc BK275 0 (.int .i64 a2_0); have hcz13_1 := bc BK275 1 (.bool a2_1); have hcz13_2 := bc BK275 2 (.int .i64 a2_2); have hfz13_0 := blk_frozen BK275.out 0; have hfz13_1 := blk_frozen BK275.out 1; have hfz13_2 := blk_frozen BK275.out 2) | (go_at_call 23; (with_reducible refine (impl_isSignal.calls a0 a2_0 a2_1 a2_2 t277 _ A9.out).mono ?_); rintro e w14 ⟨rfl, hb⟩; replace BK274 := nk BK274 hb; replace BK275 := nk BK275 hb; replace HB := bs hb; (try clear hb)))
   go_meet
   case rel => exact ⟨_, (!t277), (rs), H', ⟨by first | omega | exact Nat.le_refl _⟩, ⟨pk BK274⟩, ⟨pk BK275⟩, ⟨bw⟩⟩
  ·replace c8 := Bool.eq_false_iff.mpr c8
   subst c8
   rw [if_neg (show ¬ (false = true) by decide)] at H
   have H' := Aside0.mk H
   clear H
   have hnb15 := NB274_275.out
   have hnc15 := NB275_274.out
   have hcz16_0 := bc BK274 0 (.int .i64 a1_0)
   have hcz16_1 := bc BK274 1 (.bool a1_1)
   have hcz16_2 := bc BK274 2 (.int .i64 a1_2)
   have hfz16_0 := blk_frozen BK274.out 0
   have hfz16_1 := blk_frozen BK274.out 1
   have hfz16_2 := blk_frozen BK274.out 2
   go_wp2_with (first | ((with_reducible refine gate_callee (f := 23) rfl ?_); refine gl (some 12) Try.func23 #[.int .i64 a0, .agg #[.int .i64 a1_0, .bool a1_1, .int .i64 a1_2]] ?_; (with_reducible refine (impl_isSignal.calls a0 a1_0 a1_1 a1_2 false _ A7.out).mono ?_); rintro e w17 ⟨rfl, hb⟩; refine ⟨_, rfl, ?_⟩; replace BK274 := nk BK274 hb; replace BK275 := nk BK275 hb; replace HB := bs hb; (try clear hb)))
   go_meet
   case rel => exact ⟨_, (true), (rs), H', ⟨by first | omega | exact Nat.le_refl _⟩, ⟨pk BK274⟩, ⟨pk BK275⟩, ⟨bw⟩⟩
 case rest =>
  clear HC4
  try clear c1
  try clear c2
  try clear p2
  try clear c8
  try clear c10
  try clear c14
  try clear c15
  try clear hcz11_0
  try clear hcz11_1
  try clear hcz11_2
  try clear hcz13_0
  try clear hcz13_1
  try clear hcz13_2
  try clear hcz16_0
  try clear hcz16_1
  try clear hcz16_2
  try clear hfz11_0
  try clear hfz11_1
  try clear hfz11_2
  try clear hfz13_0
  try clear hfz13_1
  try clear hfz13_2
  try clear hfz16_0
  try clear hfz16_1
  try clear hfz16_2
  obtain ⟨kq, x19_3, rfl, HA, HJ3, BK274, BK275, HB⟩ := hcut
  cases kq with
  | zero => exact absurd HA.out (by simp [impl_FirstMeeting.j0])
  | succ kj3 =>
   have H := HA.out
   clear HA
   simp only [impl_FirstMeeting.j0] at H
   by_cases c18 : x19_3 = true
   ·subst c18
    rw [if_pos rfl] at H
    simp only [Option.some.injEq, Prod.mk.injEq] at H
    obtain ⟨rfl, rfl, rfl⟩ := H
    go_wp2
    go_ret3
    exact ⟨rs, bw⟩
   ·replace c18 := Bool.eq_false_iff.mpr c18
    subst c18
    rw [if_neg (show ¬ (false = true) by decide)] at H
    replace H := Option.bind_eq_some_iff.mp H
    obtain ⟨t278, A190, H⟩ := H
    (try dsimp only at H)
    have A19 := Aside0.mk A190
    clear A190
    by_cases c20 : t278 < 0
    ·rw [if_pos c20] at H
     have c20b0 : decide (t278 < 0) = true := decide_eq_true c20
     clear c20
     simp only [Option.some.injEq, Prod.mk.injEq] at H
     obtain ⟨rfl, rfl, rfl⟩ := H
     have hnb21 := NB274_275.out
     have hnc21 := NB275_274.out
     have hcz22_0 : wc.cell? ⟨gb274, 0, none⟩ = some (.int .i64 a1_0) := ec BK274
     have hcz22_1 : wc.cell? ⟨gb274, 1, none⟩ = some (.bool a1_1) := ec BK274
     have hcz22_2 : wc.cell? ⟨gb274, 2, none⟩ = some (.int .i64 a1_2) := ec BK274
     have hfz22_0 := blk_frozen BK274.out 0
     have hfz22_1 := blk_frozen BK274.out 1
     have hfz22_2 := blk_frozen BK274.out 2
     have hcz23_0 : wc.cell? ⟨gb275, 0, none⟩ = some (.int .i64 a2_0) := ec BK275
     have hcz23_1 : wc.cell? ⟨gb275, 1, none⟩ = some (.bool a2_1) := ec BK275
     have hcz23_2 : wc.cell? ⟨gb275, 2, none⟩ = some (.int .i64 a2_2) := ec BK275
     have hfz23_0 := blk_frozen BK275.out 0
     have hfz23_1 := blk_frozen BK275.out 1
     have hfz23_2 := blk_frozen BK275.out 2
     go_wp2_with (first | ((with_reducible refine gate_callee (f := 38) rfl ?_); refine gl (some 23) Try.func38 #[.int .i64 a0, .agg #[.int .i64 a1_0, .bool a1_1, .int .i64 a1_2], .agg #[.int .i64 a2_0, .bool a2_1, .int .i64 a2_2], .int .i64 0] ?_; (with_reducible refine (impl_firstMeeting.calls kj3 a0 a1_0 a1_1 a1_2 a2_0 a2_1 a2_2 0 t278 _ A19.out).mono ?_); rintro e w24 ⟨rfl, hb⟩; refine ⟨_, rfl, ?_⟩; replace BK274 := nk BK274 hb; replace BK275 := nk BK275 hb; replace HB := bs hb; (try clear hb)))
     go_ret3
     exact ⟨rs, bw⟩
    ·rw [if_neg c20] at H
     have c20b0 : decide (t278 < 0) = false := decide_eq_false c20
     clear c20
     replace H := Option.bind_eq_some_iff.mp H
     obtain ⟨t279, A250, H⟩ := H
     (try dsimp only at H)
     have A25 := Aside0.mk A250
     clear A250
     simp only [Option.some.injEq, Prod.mk.injEq] at H
     obtain ⟨rfl, rfl, rfl⟩ := H
     have hnb26 := NB274_275.out
     have hnc26 := NB275_274.out
     have hcz27_0 : wc.cell? ⟨gb274, 0, none⟩ = some (.int .i64 a1_0) := ec BK274
     have hcz27_1 : wc.cell? ⟨gb274, 1, none⟩ = some (.bool a1_1) := ec BK274
     have hcz27_2 : wc.cell? ⟨gb274, 2, none⟩ = some (.int .i64 a1_2) := ec BK274
     have hfz27_0 := blk_frozen BK274.out 0
     have hfz27_1 := blk_frozen BK274.out 1
     have hfz27_2 := blk_frozen BK274.out 2
     have hcz28_0 : wc.cell? ⟨gb275, 0, none⟩ = some (.int .i64 a2_0) := ec BK275
     have hcz28_1 : wc.cell? ⟨gb275, 1, none⟩ = some (.bool a2_1) := ec BK275
     have hcz28_2 : wc.cell? ⟨gb275, 2, none⟩ = some (.int .i64 a2_2) := ec BK275
     have hfz28_0 := blk_frozen BK275.out 0
     have hfz28_1 := blk_frozen BK275.out 1
     have hfz28_2 := blk_frozen BK275.out 2
     go_wp2_with (first | ((with_reducible refine gate_callee (f := 38) rfl ?_); refine gl (some 23) Try.func38 #[.int .i64 a0, .agg #[.int .i64 a1_0, .bool a1_1, .int .i64 a1_2], .agg #[.int .i64 a2_0, .bool a2_1, .int .i64 a2_2], .int .i64 0] ?_; (with_reducible refine (impl_firstMeeting.calls kj3 a0 a1_0 a1_1 a1_2 a2_0 a2_1 a2_2 0 t278 _ A19.out).mono ?_); rintro e w29 ⟨rfl, hb⟩; refine ⟨_, rfl, ?_⟩; replace BK274 := nk BK274 hb; replace BK275 := nk BK275 hb; replace HB := bs hb; (try clear hb); have hcz30_0 := bc BK274 0 (.int .i64 a1_0); have hcz30_1 := bc BK274 1 (.bool a1_1); have hcz30_2 := bc BK274 2 (.int .i64 a1_2); have hfz30_0 := blk_frozen BK274.out 0; have hfz30_1 := blk_frozen BK274.out 1; have hfz30_2 := blk_frozen BK274.out 2) | ((with_reducible refine gate_callee (f := 25) rfl ?_); refine gl (some 30) Try.func25 #[.agg #[.int .i64 a1_0, .bool a1_1, .int .i64 a1_2], .int .i64 a0, .int .i64 t278] ?_; (with_reducible refine (impl_Signal_place.calls a1_0 a1_1 a1_2 a0 t278 t279 _ A25.out).mono ?_); rintro e w31 ⟨rfl, hb⟩; refine ⟨_, rfl, ?_⟩; replace BK274 := nk BK274 hb; replace BK275 := nk BK275 hb; replace HB := bs hb; (try clear hb)))
     go_ret3
     exact ⟨rs, bw⟩

/-! ### spec_siMeet: function 39 -/
def spec_siMeet.j0 : Nat → Int → Int → Bool → Int → Bool → Int → Int → Bool → Int → Option (Bool)
  | 0, _, _, _, _, _, _, _, _, _ => none
  | k + 1, x0, x3, x20, x281000, x281001, x281002, x282000, x282001, x282002 => if x20 = true then (some false) else ((spec_siAt.f x0 x281000 x281001 x281002 x3).bind fun t284 => ((spec_siAt.f x0 x282000 x282001 x282002 x3).bind fun t285 => (some (t284 == t285))))
def spec_siMeet.f (k : Nat) (a0 : Int) (a1_0 : Int) (a1_1 : Bool) (a1_2 : Int) (a2_0 : Int) (a2_1 : Bool) (a2_2 : Int) (a3 : Int) : Option (Bool) := (spec_siComes.f a0 a1_0 a1_1 a1_2 a3).bind fun t282 => (if t282 = true then (spec_siMeet.j0 k a0 a3 false a1_0 a1_1 a1_2 a2_0 a2_1 a2_2) else ((spec_siComes.f a0 a2_0 a2_1 a2_2 a3).bind fun t283 => (spec_siMeet.j0 k a0 a3 (!t283) a1_0 a1_1 a1_2 a2_0 a2_1 a2_2)))
theorem spec_siMeet.mono_l : ∀ k, (∀ y0 y1 y2 y3 y4 y5 y6 y7 y8, LeO (spec_siMeet.j0 k y0 y1 y2 y3 y4 y5 y6 y7 y8) (spec_siMeet.j0 (k + 1) y0 y1 y2 y3 y4 y5 y6 y7 y8))
  | 0 => fun _ _ _ _ _ _ _ _ _ r h => by simp [spec_siMeet.j0] at h
  | k + 1 => by
    have ih0 := spec_siMeet.mono_l k
    · intro y0 y1 y2 y3 y4 y5 y6 y7 y8
      unfold spec_siMeet.j0
      repeat' first
      | (with_reducible exact ih0 _ _ _ _ _ _ _ _ _)
      | (with_reducible exact LeO.refl _)
      | (with_reducible exact LeO.none _)
      | (with_reducible refine LeO.ite ?_ ?_)
      | (with_reducible refine LeO.bind ?_ (fun _ => ?_))
      | exact ih0 _ _ _ _ _ _ _ _ _
      | exact LeO.none _
      | refine LeO.ite ?_ ?_
      | refine LeO.bind ?_ (fun _ => ?_)
theorem spec_siMeet.mono : ∀ a0 a1 a2 a3 a4 a5 a6 a7 k, LeO (spec_siMeet.f k a0 a1 a2 a3 a4 a5 a6 a7) (spec_siMeet.f (k + 1) a0 a1 a2 a3 a4 a5 a6 a7) := by
  intro a0 a1 a2 a3 a4 a5 a6 a7 k
  have ih0 := spec_siMeet.mono_l k
  unfold spec_siMeet.f
  repeat' first
      | (with_reducible exact ih0 _ _ _ _ _ _ _ _ _)
      | (with_reducible exact LeO.refl _)
      | (with_reducible exact LeO.none _)
      | (with_reducible refine LeO.ite ?_ ?_)
      | (with_reducible refine LeO.bind ?_ (fun _ => ?_))
      | exact ih0 _ _ _ _ _ _ _ _ _
      | exact LeO.none _
      | refine LeO.ite ?_ ?_
      | refine LeO.bind ?_ (fun _ => ?_)
def spec_siMeet.T3 : Bool × List (List Nat × List Nat) := (true, [([], []), ([], []), ([], []), ([0, 1, 2], [0, 1, 2]), ([], []), ([], []), ([], []), ([4, 5, 6, 3], [4, 5, 6]), ([3, 7], [3, 7]), ([8, 7, 0, 1, 2, 3, 4, 5, 6, 7, 8], [8])])
def spec_siMeet.B3 : List Nat := [0, 0, 0, 7, 0, 0, 0, 127, 255, 511]
theorem spec_siMeet.tab3 : rtab .any (opsOf Try.f39 3) = spec_siMeet.T3 := by kernel_rfl
theorem spec_siMeet.bits3 : waitsOk spec_siMeet.T3.2 spec_siMeet.B3 = true := by kernel_rfl
set_option maxHeartbeats 8000000 in
set_option maxRecDepth 100000 in
theorem spec_siMeet.calls (k : Nat) (a0 : Int) (a1_0 : Int) (a1_1 : Bool) (a1_2 : Int) (a2_0 : Int) (a2_1 : Bool) (a2_2 : Int) (a3 : Int) (r : Bool) (w : World) (h : spec_siMeet.f k a0 a1_0 a1_1 a1_2 a2_0 a2_1 a2_2 a3 = some r) :
  Calls Try.prog 39 #[.int .i64 a0, .agg #[.int .i64 a1_0, .bool a1_1, .int .i64 a1_2], .agg #[.int .i64 a2_0, .bool a2_1, .int .i64 a2_2], .int .i64 a3] w fun e w' => e = .returned (.bool r) ∧ Below w.heap.size w w' := by
 have hu25 := Try.underlying25
 have HB := Aside0.mk (Below.refl w.heap.size w)
 unfold spec_siMeet.f at h
 have H := h
 clear h
 have HC5 := Aside0.mk H
 clear H
 go_enter Try.func39, Try.ntmps39
 go_upto_region 1 with (first | ((with_reducible refine gate_dst (N := 5) rfl ?_); refine bx 5 25 #[.int .i64 a1_0, .bool a1_1, .int .i64 a1_2] ?_; intro gb280 hg w6 hbox hb; have BK280 := hbox; have GW280 := gs hg; have GE280 := gs hg; replace HB := bs hb; clear hb hbox hg) | ((with_reducible refine gate_dst (N := 6) rfl ?_); refine bx 6 25 #[.int .i64 a2_0, .bool a2_1, .int .i64 a2_2] ?_; intro gb281 hg w7 hbox hb; have BK281 := hbox; have GW281 := gs hg; have GE281 := gs hg; replace HB := bs hb; have NB280_281 := nl BK280 hg; have NB281_280 := ng BK280 hg; replace BK280 := nk BK280 hb; clear hb hbox hg))
 (try simp only [Act.put, List.setIfInBounds_toArray, List.set_cons_zero, List.set_cons_succ])
 go_cut [20] (fun v20 wc => ∃ (kq : Nat) (x20_4 : Bool), v20 = .bool x20_4 ∧ Aside0 (spec_siMeet.j0 kq a0 a3 x20_4 a1_0 a1_1 a1_2 a2_0 a2_1 a2_2 = some r) ∧ Aside0 (kq ≤ k) ∧ Aside0 (wc.heap[gb280]? = some (.cells #[.int .i64 a1_0, .bool a1_1, .int .i64 a1_2] 25 (0, 0))) ∧ Aside0 (wc.heap[gb281]? = some (.cells #[.int .i64 a2_0, .bool a2_1, .int .i64 a2_2] 25 (0, 0))) ∧ Aside0 (Below w.heap.size w wc))
 case first =>
  have H := HC5.out
  clear HC5
  replace H := Option.bind_eq_some_iff.mp H
  obtain ⟨t282, A80, H⟩ := H
  (try dsimp only at H)
  have A8 := Aside0.mk A80
  clear A80
  by_cases c9 : t282 = true
  ·subst c9
   rw [if_pos rfl] at H
   have H' := Aside0.mk H
   clear H
   have hnb10 := NB280_281.out
   have hnc10 := NB281_280.out
   have hcz11_0 := bc BK280 0 (.int .i64 a1_0)
   have hcz11_1 := bc BK280 1 (.bool a1_1)
   have hcz11_2 := bc BK280 2 (.int .i64 a1_2)
   have hfz11_0 := blk_frozen BK280.out 0
   have hfz11_1 := blk_frozen BK280.out 1
   have hfz11_2 := blk_frozen BK280.out 2
   go_wp2_with (first | ((with_reducible refine gate_callee (f := 36) rfl ?_); refine gl (some 12) Try.func36 #[.int .i64 a0, .agg #[.int .i64 a1_0, .bool a1_1, .int .i64 a1_2], .int .i64 a3] ?_; (with_reducible refine (spec_siComes.calls a0 a1_0 a1_1 a1_2 a3 true _ A8.out).mono ?_); rintro e w12 ⟨rfl, hb⟩; refine ⟨_, rfl, ?_⟩; replace BK280 := nk BK280 hb; replace BK281 := nk BK281 hb; replace HB := bs hb; (try clear hb)))
   go_meet
   case rel => exact ⟨_, (false), (rs), H', ⟨by first | omega | exact Nat.le_refl _⟩, ⟨pk BK280⟩, ⟨pk BK281⟩, ⟨bw⟩⟩
  ·replace c9 := Bool.eq_false_iff.mpr c9
   subst c9
   rw [if_neg (show ¬ (false = true) by decide)] at H
   replace H := Option.bind_eq_some_iff.mp H
   obtain ⟨t283, A130, H⟩ := H
   (try dsimp only at H)
   have A13 := Aside0.mk A130
   clear A130
   have H' := Aside0.mk H
   clear H
   have hnb14 := NB280_281.out
   have hnc14 := NB281_280.out
   have hcz15_0 := bc BK280 0 (.int .i64 a1_0)
   have hcz15_1 := bc BK280 1 (.bool a1_1)
   have hcz15_2 := bc BK280 2 (.int .i64 a1_2)
   have hfz15_0 := blk_frozen BK280.out 0
   have hfz15_1 := blk_frozen BK280.out 1
   have hfz15_2 := blk_frozen BK280.out 2
   go_wp2_with (first | ((with_reducible refine gate_callee (f := 36) rfl ?_); refine gl (some 12) Try.func36 #[.int .i64 a0, .agg #[.int .i64 a1_0, .bool a1_1, .int .i64 a1_2], .int .i64 a3] ?_; (with_reducible refine (spec_siComes.calls a0 a1_0 a1_1 a1_2 a3 false _ A8.out).mono ?_); rintro e w16 ⟨rfl, hb⟩; refine ⟨_, rfl, ?_⟩; replace BK280 := nk BK280 hb; replace BK281 := nk BK281 hb; replace HB := bs hb; (try clear hb); have hcz17_0 := bc BK281 0 (.int .i64 a2_0); have hcz17_1 := bc BK281 1 (.bool a2_1); have hcz17_2 := bc BK281 2 (.int .i64 a2_2); have hfz17_0 := blk_frozen BK281.out 0; have hfz17_1 := blk_frozen BK281.out 1; have hfz17_2 := blk_frozen BK281.out 2) | (go_at_call 36; (with_reducible refine (spec_siComes.calls a0 a2_0 a2_1 a2_2 a3 t283 _ A13.out).mono ?_); rintro e w18 ⟨rfl, hb⟩; replace BK280 := nk BK280 hb; replace BK281 := nk BK281 hb; replace HB := bs hb; (try clear hb)))
   go_meet
   case rel => exact ⟨_, (!t283), (rs), H', ⟨by first | omega | exact Nat.le_refl _⟩, ⟨pk BK280⟩, ⟨pk BK281⟩, ⟨bw⟩⟩
 case rest =>
  clear HC5
  try clear c1
  try clear p2
  try clear c3
  try clear c9
  try clear c10
  try clear c14
  try clear hcz11_0
  try clear hcz11_1
  try clear hcz11_2
  try clear hcz15_0
  try clear hcz15_1
  try clear hcz15_2
  try clear hcz17_0
  try clear hcz17_1
  try clear hcz17_2
  try clear hfz11_0
  try clear hfz11_1
  try clear hfz11_2
  try clear hfz15_0
  try clear hfz15_1
  try clear hfz15_2
  try clear hfz17_0
  try clear hfz17_1
  try clear hfz17_2
  obtain ⟨kq, x20_4, rfl, HA, HJ4, BK280, BK281, HB⟩ := hcut
  cases kq with
  | zero => exact absurd HA.out (by simp [spec_siMeet.j0])
  | succ kj4 =>
   have H := HA.out
   clear HA
   simp only [spec_siMeet.j0] at H
   by_cases c19 : x20_4 = true
   ·subst c19
    rw [if_pos rfl] at H
    obtain rfl := Option.some.inj H
    go_wp2
    go_ret
    exact ⟨rs, bw⟩
   ·replace c19 := Bool.eq_false_iff.mpr c19
    subst c19
    rw [if_neg (show ¬ (false = true) by decide)] at H
    replace H := Option.bind_eq_some_iff.mp H
    obtain ⟨t284, A200, H⟩ := H
    (try dsimp only at H)
    have A20 := Aside0.mk A200
    clear A200
    replace H := Option.bind_eq_some_iff.mp H
    obtain ⟨t285, A210, H⟩ := H
    (try dsimp only at H)
    have A21 := Aside0.mk A210
    clear A210
    obtain rfl := Option.some.inj H
    try go_wp2
    replace BK280 := Aside0.mk (blk_drew BK280.out)
    replace BK281 := Aside0.mk (blk_drew BK281.out)
    replace HB := Aside0.mk (below_drew1 HB.out)
    refine start_ (n := 10) (S := fun w' => w'.cell? ⟨gb280, 0, none⟩ = some (.int .i64 a1_0) ∧ w'.cell? ⟨gb280, 1, none⟩ = some (.bool a1_1) ∧ w'.cell? ⟨gb280, 2, none⟩ = some (.int .i64 a1_2) ∧ w'.cell? ⟨gb281, 0, none⟩ = some (.int .i64 a2_0) ∧ w'.cell? ⟨gb281, 1, none⟩ = some (.bool a2_1) ∧ w'.cell? ⟨gb281, 2, none⟩ = some (.int .i64 a2_2)) (ds := []) #[false, false, false, false, false, false, false, false, false, false] (by kernel_rfl) rfl rfl ⟨ec BK280, ec BK280, ec BK280, ec BK281, ec BK281, ec BK281⟩ (fun hHeld => ?_); refine with_tabW spec_siMeet.tab3 spec_siMeet.bits3 (fun HT_ HW_ => ?_)
    generalize wc.drew = w22 at BK280 BK281 HB hHeld ⊢
    refine pu 0 (some 21) #[true, false, false, false, false, false, false, false, false, false] ?_
    refine pu 2 (some 23) #[true, false, true, false, false, false, false, false, false, false] ?_
    refine pu 4 (some 25) #[true, false, true, false, true, false, false, false, false, false] ?_
    refine pu 6 (some 27) #[true, false, true, false, true, false, true, false, false, false] ?_
    refine take_ (i := 1) (N := some 22) (v := ?_) (a' := ?_) #[true, true, true, false, true, false, true, false, false, false] rfl rfl (take_ofW HT_.out HW_.out (by kernel_rfl)) (fun _ _ _ h => h) (Or.inl ⟨by rfl, ?_⟩) hHeld ?_ ?_
    rotate_left
    ·rintro w' ⟨s0, s1, s2, s3, s4, s5⟩
     go_simp
     with_reducible rfl
    rotate_left
    ·simp only [Act.put, List.setIfInBounds_toArray, List.set_cons_zero, List.set_cons_succ, i64_w, i32_w]
     rfl
    refine take_ (i := 5) (N := some 26) (v := ?_) (a' := ?_) #[true, true, true, false, true, true, true, false, false, false] rfl rfl (take_ofW HT_.out HW_.out (by kernel_rfl)) (fun _ _ _ h => h) (Or.inl ⟨by rfl, ?_⟩) hHeld ?_ ?_
    rotate_left
    ·rintro w' ⟨s0, s1, s2, s3, s4, s5⟩
     go_simp
     with_reducible rfl
    rotate_left
    ·simp only [Act.put, List.setIfInBounds_toArray, List.set_cons_zero, List.set_cons_succ, i64_w, i32_w]
     rfl
    refine one_ (i := 3) (N := some 24) #[true, true, true, true, true, true, true, false, false, false] rfl rfl (one_of HT_.out (by kernel_rfl)) (by decide) (fun K hK => ?_)
    refine goes_ Try.func28 (by kernel_rfl) rfl #[.int .i64 a0, .agg #[.int .i64 a1_0, .bool a1_1, .int .i64 a1_2], .int .i64 a3] (by rfl) rfl rfl (by (try simp only [List.map_toArray, List.map_cons, List.map_nil]); first | done | rfl | (simp only [List.length_drop, List.length_take]; rfl)) ?_
    with_reducible refine (spec_siAt.calls a0 a1_0 a1_1 a1_2 a3 t284 _ A20.out).mono ?_
    rintro e w23 ⟨rfl, hb⟩
    refine ⟨_, rfl, ?_⟩
    replace BK280 := nk BK280 hb
    replace BK281 := nk BK281 hb
    replace HB := bs hb
    (try clear hb)
    refine hK.out _ _ ⟨ec BK280, ec BK280, ec BK280, ec BK281, ec BK281, ec BK281⟩ (fun hHeld => ?_)
    clear hK K
    refine nm (some 24) ?_
    refine one_ (i := 7) (N := some 28) #[true, true, true, true, true, true, true, true, false, false] rfl rfl (one_of HT_.out (by kernel_rfl)) (by decide) (fun K hK => ?_)
    refine goes_ Try.func28 (by kernel_rfl) rfl #[.int .i64 a0, .agg #[.int .i64 a2_0, .bool a2_1, .int .i64 a2_2], .int .i64 a3] (by rfl) rfl rfl (by (try simp only [List.map_toArray, List.map_cons, List.map_nil]); first | done | rfl | (simp only [List.length_drop, List.length_take]; rfl)) ?_
    with_reducible refine (spec_siAt.calls a0 a2_0 a2_1 a2_2 a3 t285 _ A21.out).mono ?_
    rintro e w24 ⟨rfl, hb⟩
    refine ⟨_, rfl, ?_⟩
    replace BK280 := nk BK280 hb
    replace BK281 := nk BK281 hb
    replace HB := bs hb
    (try clear hb)
    refine hK.out _ _ ⟨ec BK280, ec BK280, ec BK280, ec BK281, ec BK281, ec BK281⟩ (fun hHeld => ?_)
    clear hK K
    refine nm (some 28) ?_
    refine pu 8 (some 29) #[true, true, true, true, true, true, true, true, true, false] ?_
    refine pu 9 (some 8) #[true, true, true, true, true, true, true, true, true, true] ?_
    refine done_ (done_of HT_.out (by kernel_rfl)) ?_
    try go_wp2
    go_ret
    exact ⟨rs, bw⟩

/-! ### spec_FirstMeeting: function 15 -/
mutual
def spec_FirstMeeting.j0 : Nat → Int → Bool → Int → Bool → Int → Int → Bool → Int → Option (Int × Int × Bool)
  | 0, _, _, _, _, _, _, _, _ => none
  | k + 1, x0, x19, x287000, x287001, x287002, x288000, x288001, x288002 => if x19 = true then (some (0, 0, false)) else (spec_FirstMeeting.l0 k x0 0 x287000 x287001 x287002 x288000 x288001 x288002)
def spec_FirstMeeting.l0 : Nat → Int → Int → Int → Bool → Int → Int → Bool → Int → Option (Int × Int × Bool)
  | 0, _, _, _, _, _, _, _, _ => none
  | k + 1, x0, x9, x287000, x287001, x287002, x288000, x288001, x288002 => if x9 ≤ 100000 then ((spec_siMeet.f k x0 x287000 x287001 x287002 x288000 x288001 x288002 x9).bind fun t290 => (if t290 = true then ((spec_siAt.f x0 x287000 x287001 x287002 x9).bind fun t291 => (some (x9, t291, true))) else (spec_FirstMeeting.l0 k x0 (wrap64 (x9 + 1)) x287000 x287001 x287002 x288000 x288001 x288002))) else (some (0, 0, false))
end
def spec_FirstMeeting.f (k : Nat) (a0 : Int) (a1_0 : Int) (a1_1 : Bool) (a1_2 : Int) (a2_0 : Int) (a2_1 : Bool) (a2_2 : Int) : Option (Int × Int × Bool) := (spec_siSignal.f a0 a1_0 a1_1 a1_2).bind fun t288 => (if t288 = true then ((spec_siSignal.f a0 a2_0 a2_1 a2_2).bind fun t289 => (spec_FirstMeeting.j0 k a0 (!t289) a1_0 a1_1 a1_2 a2_0 a2_1 a2_2)) else (spec_FirstMeeting.j0 k a0 true a1_0 a1_1 a1_2 a2_0 a2_1 a2_2))
theorem spec_FirstMeeting.mono_l : ∀ k, (∀ y0 y1 y2 y3 y4 y5 y6 y7, LeO (spec_FirstMeeting.j0 k y0 y1 y2 y3 y4 y5 y6 y7) (spec_FirstMeeting.j0 (k + 1) y0 y1 y2 y3 y4 y5 y6 y7)) ∧ (∀ y0 y1 y2 y3 y4 y5 y6 y7, LeO (spec_FirstMeeting.l0 k y0 y1 y2 y3 y4 y5 y6 y7) (spec_FirstMeeting.l0 (k + 1) y0 y1 y2 y3 y4 y5 y6 y7))
  | 0 => ⟨fun _ _ _ _ _ _ _ _ r h => by simp [spec_FirstMeeting.j0] at h, fun _ _ _ _ _ _ _ _ r h => by simp [spec_FirstMeeting.l0] at h⟩
  | k + 1 => by
    obtain ⟨ih0, ih1⟩ := spec_FirstMeeting.mono_l k
    refine ⟨?_, ?_⟩
    · intro y0 y1 y2 y3 y4 y5 y6 y7
      unfold spec_FirstMeeting.j0
      repeat' first
      | (with_reducible exact ih0 _ _ _ _ _ _ _ _)
      | (with_reducible exact ih1 _ _ _ _ _ _ _ _)
      | (with_reducible exact spec_siMeet.mono _ _ _ _ _ _ _ _ _)
      | (with_reducible exact LeO.refl _)
      | (with_reducible exact LeO.none _)
      | (with_reducible refine LeO.ite ?_ ?_)
      | (with_reducible refine LeO.bind ?_ (fun _ => ?_))
      | exact ih0 _ _ _ _ _ _ _ _
      | exact ih1 _ _ _ _ _ _ _ _
      | exact spec_siMeet.mono _ _ _ _ _ _ _ _ _
      | exact LeO.none _
      | refine LeO.ite ?_ ?_
      | refine LeO.bind ?_ (fun _ => ?_)
    · intro y0 y1 y2 y3 y4 y5 y6 y7
      unfold spec_FirstMeeting.l0
      repeat' first
      | (with_reducible exact ih0 _ _ _ _ _ _ _ _)
      | (with_reducible exact ih1 _ _ _ _ _ _ _ _)
      | (with_reducible exact spec_siMeet.mono _ _ _ _ _ _ _ _ _)
      | (with_reducible exact LeO.refl _)
      | (with_reducible exact LeO.none _)
      | (with_reducible refine LeO.ite ?_ ?_)
      | (with_reducible refine LeO.bind ?_ (fun _ => ?_))
      | exact ih0 _ _ _ _ _ _ _ _
      | exact ih1 _ _ _ _ _ _ _ _
      | exact spec_siMeet.mono _ _ _ _ _ _ _ _ _
      | exact LeO.none _
      | refine LeO.ite ?_ ?_
      | refine LeO.bind ?_ (fun _ => ?_)
theorem spec_FirstMeeting.mono : ∀ a0 a1 a2 a3 a4 a5 a6 k, LeO (spec_FirstMeeting.f k a0 a1 a2 a3 a4 a5 a6) (spec_FirstMeeting.f (k + 1) a0 a1 a2 a3 a4 a5 a6) := by
  intro a0 a1 a2 a3 a4 a5 a6 k
  obtain ⟨ih0, ih1⟩ := spec_FirstMeeting.mono_l k
  unfold spec_FirstMeeting.f
  repeat' first
      | (with_reducible exact ih0 _ _ _ _ _ _ _ _)
      | (with_reducible exact ih1 _ _ _ _ _ _ _ _)
      | (with_reducible exact spec_siMeet.mono _ _ _ _ _ _ _ _ _)
      | (with_reducible exact LeO.refl _)
      | (with_reducible exact LeO.none _)
      | (with_reducible refine LeO.ite ?_ ?_)
      | (with_reducible refine LeO.bind ?_ (fun _ => ?_))
      | exact ih0 _ _ _ _ _ _ _ _
      | exact ih1 _ _ _ _ _ _ _ _
      | exact spec_siMeet.mono _ _ _ _ _ _ _ _ _
      | exact LeO.none _
      | refine LeO.ite ?_ ?_
      | refine LeO.bind ?_ (fun _ => ?_)
set_option maxHeartbeats 8000000 in
set_option maxRecDepth 100000 in
theorem spec_FirstMeeting.calls (k : Nat) (a0 : Int) (a1_0 : Int) (a1_1 : Bool) (a1_2 : Int) (a2_0 : Int) (a2_1 : Bool) (a2_2 : Int) (r1 : Int) (r2 : Int) (r3 : Bool) (w : World) (h : spec_FirstMeeting.f k a0 a1_0 a1_1 a1_2 a2_0 a2_1 a2_2 = some (r1, r2, r3)) :
  Calls Try.prog 15 #[.int .i64 a0, .agg #[.int .i64 a1_0, .bool a1_1, .int .i64 a1_2], .agg #[.int .i64 a2_0, .bool a2_1, .int .i64 a2_2]] w fun e w' => e = .returned (.tuple #[.int .i64 r1, .int .i64 r2, .bool r3]) ∧ Below w.heap.size w w' := by
 have hu25 := Try.underlying25
 have HB := Aside0.mk (Below.refl w.heap.size w)
 unfold spec_FirstMeeting.f at h
 have H := h
 clear h
 have HC4 := Aside0.mk H
 clear H
 go_enter Try.func15, Try.ntmps15
 go_upto_region 1 with (first | ((with_reducible refine gate_dst (N := 4) rfl ?_); refine bx 4 25 #[.int .i64 a1_0, .bool a1_1, .int .i64 a1_2] ?_; intro gb286 hg w5 hbox hb; have BK286 := hbox; have GW286 := gs hg; have GE286 := gs hg; replace HB := bs hb; clear hb hbox hg) | ((with_reducible refine gate_dst (N := 5) rfl ?_); refine bx 5 25 #[.int .i64 a2_0, .bool a2_1, .int .i64 a2_2] ?_; intro gb287 hg w6 hbox hb; have BK287 := hbox; have GW287 := gs hg; have GE287 := gs hg; replace HB := bs hb; have NB286_287 := nl BK286 hg; have NB287_286 := ng BK286 hg; replace BK286 := nk BK286 hb; clear hb hbox hg))
 (try simp only [Act.put, List.setIfInBounds_toArray, List.set_cons_zero, List.set_cons_succ])
 go_cut [19] (fun v19 wc => ∃ (kq : Nat) (x19_3 : Bool), v19 = .bool x19_3 ∧ Aside0 (spec_FirstMeeting.j0 kq a0 x19_3 a1_0 a1_1 a1_2 a2_0 a2_1 a2_2 = some (r1, r2, r3)) ∧ Aside0 (kq ≤ k) ∧ Aside0 (wc.heap[gb286]? = some (.cells #[.int .i64 a1_0, .bool a1_1, .int .i64 a1_2] 25 (0, 0))) ∧ Aside0 (wc.heap[gb287]? = some (.cells #[.int .i64 a2_0, .bool a2_1, .int .i64 a2_2] 25 (0, 0))) ∧ Aside0 (Below w.heap.size w wc))
 case first =>
  have H := HC4.out
  clear HC4
  replace H := Option.bind_eq_some_iff.mp H
  obtain ⟨t288, A70, H⟩ := H
  (try dsimp only at H)
  have A7 := Aside0.mk A70
  clear A70
  by_cases c8 : t288 = true
  ·subst c8
   rw [if_pos rfl] at H
   replace H := Option.bind_eq_some_iff.mp H
   obtain ⟨t289, A90, H⟩ := H
   (try dsimp only at H)
   have A9 := Aside0.mk A90
   clear A90
   have H' := Aside0.mk H
   clear H
   have hnb10 := NB286_287.out
   have hnc10 := NB287_286.out
   have hcz11_0 := bc BK286 0 (.int .i64 a1_0)
   have hcz11_1 := bc BK286 1 (.bool a1_1)
   have hcz11_2 := bc BK286 2 (.int .i64 a1_2)
   have hfz11_0 := blk_frozen BK286.out 0
   have hfz11_1 := blk_frozen BK286.out 1
   have hfz11_2 := blk_frozen BK286.out 2
   go_wp2_with (first | ((with_reducible refine gate_callee (f := 26) rfl ?_); refine gl (some 12) Try.func26 #[.int .i64 a0, .agg #[.int .i64 a1_0, .bool a1_1, .int .i64 a1_2]] ?_; (with_reducible refine (spec_siSignal.calls a0 a1_0 a1_1 a1_2 true _ A7.out).mono ?_); rintro e w12 ⟨rfl, hb⟩; refine ⟨_, rfl, ?_⟩; replace BK286 := nk BK286 hb; replace BK287 := nk BK287 hb; replace HB := bs hb; (try clear hb); have hcz13_0 := bc BK287 0 (.int .i64 a2_0); have hcz13_1 := bc BK287 1 (.bool a2_1); have hcz13_2 := bc BK287 2 (.int .i64 a2_2); have hfz13_0 := blk_frozen BK287.out 0; have hfz13_1 := blk_frozen BK287.out 1; have hfz13_2 := blk_frozen BK287.out 2) | (go_at_call 26; (with_reducible refine (spec_siSignal.calls a0 a2_0 a2_1 a2_2 t289 _ A9.out).mono ?_); rintro e w14 ⟨rfl, hb⟩; replace BK286 := nk BK286 hb; replace BK287 := nk BK287 hb; replace HB := bs hb; (try clear hb)))
   go_meet
   case rel => exact ⟨_, (!t289), (rs), H', ⟨by first | omega | exact Nat.le_refl _⟩, ⟨pk BK286⟩, ⟨pk BK287⟩, ⟨bw⟩⟩
  ·replace c8 := Bool.eq_false_iff.mpr c8
   subst c8
   rw [if_neg (show ¬ (false = true) by decide)] at H
   have H' := Aside0.mk H
   clear H
   have hnb15 := NB286_287.out
   have hnc15 := NB287_286.out
   have hcz16_0 := bc BK286 0 (.int .i64 a1_0)
   have hcz16_1 := bc BK286 1 (.bool a1_1)
   have hcz16_2 := bc BK286 2 (.int .i64 a1_2)
   have hfz16_0 := blk_frozen BK286.out 0
   have hfz16_1 := blk_frozen BK286.out 1
   have hfz16_2 := blk_frozen BK286.out 2
   go_wp2_with (first | ((with_reducible refine gate_callee (f := 26) rfl ?_); refine gl (some 12) Try.func26 #[.int .i64 a0, .agg #[.int .i64 a1_0, .bool a1_1, .int .i64 a1_2]] ?_; (with_reducible refine (spec_siSignal.calls a0 a1_0 a1_1 a1_2 false _ A7.out).mono ?_); rintro e w17 ⟨rfl, hb⟩; refine ⟨_, rfl, ?_⟩; replace BK286 := nk BK286 hb; replace BK287 := nk BK287 hb; replace HB := bs hb; (try clear hb)))
   go_meet
   case rel => exact ⟨_, (true), (rs), H', ⟨by first | omega | exact Nat.le_refl _⟩, ⟨pk BK286⟩, ⟨pk BK287⟩, ⟨bw⟩⟩
 case rest =>
  clear HC4
  try clear c1
  try clear c2
  try clear p2
  try clear c8
  try clear c10
  try clear c15
  try clear hcz11_0
  try clear hcz11_1
  try clear hcz11_2
  try clear hcz13_0
  try clear hcz13_1
  try clear hcz13_2
  try clear hcz16_0
  try clear hcz16_1
  try clear hcz16_2
  try clear hfz11_0
  try clear hfz11_1
  try clear hfz11_2
  try clear hfz13_0
  try clear hfz13_1
  try clear hfz13_2
  try clear hfz16_0
  try clear hfz16_1
  try clear hfz16_2
  obtain ⟨kq, x19_3, rfl, HA, HJ3, BK286, BK287, HB⟩ := hcut
  cases kq with
  | zero => exact absurd HA.out (by simp [spec_FirstMeeting.j0])
  | succ kj3 =>
   have H := HA.out
   clear HA
   simp only [spec_FirstMeeting.j0] at H
   by_cases c18 : x19_3 = true
   ·subst c18
    rw [if_pos rfl] at H
    simp only [Option.some.injEq, Prod.mk.injEq] at H
    obtain ⟨rfl, rfl, rfl⟩ := H
    go_wp2
    go_ret3
    exact ⟨rs, bw⟩
   ·replace c18 := Bool.eq_false_iff.mpr c18
    subst c18
    rw [if_neg (show ¬ (false = true) by decide)] at H
    have H' := Aside0.mk H
    clear H
    go_wp2
    go_loopg [9] kj3 (fun kq v9 w' => ∃ (x9_2 : Int), v9 = .int .i64 x9_2 ∧ Aside0 (spec_FirstMeeting.l0 kq a0 x9_2 a1_0 a1_1 a1_2 a2_0 a2_1 a2_2 = some (r1, r2, r3)) ∧ Aside0 (kq ≤ kj3) ∧ Aside0 (w'.heap[gb286]? = some (.cells #[.int .i64 a1_0, .bool a1_1, .int .i64 a1_2] 25 (0, 0))) ∧ Aside0 (w'.heap[gb287]? = some (.cells #[.int .i64 a2_0, .bool a2_1, .int .i64 a2_2] 25 (0, 0))) ∧ Aside0 (Below w.heap.size w w'))
    case atStart => exact ⟨(0), (rs), H', ⟨Nat.le_refl _⟩, ⟨pk BK286⟩, ⟨pk BK287⟩, ⟨bw⟩⟩
    case round =>
     clear H'
     try clear c1
     try clear c2
     try clear p2
     try clear c8
     try clear c10
     try clear c15
     try clear c18
     try clear hcz11_0
     try clear hcz11_1
     try clear hcz11_2
     try clear hcz13_0
     try clear hcz13_1
     try clear hcz13_2
     try clear hcz16_0
     try clear hcz16_1
     try clear hcz16_2
     try clear hfz11_0
     try clear hfz11_1
     try clear hfz11_2
     try clear hfz13_0
     try clear hfz13_1
     try clear hfz13_2
     try clear hfz16_0
     try clear hfz16_1
     try clear hfz16_2
     try clear p2
     obtain ⟨x9_2, rfl, HA, HK2, BK286, BK287, HB⟩ := hrel
     cases gk with
     | zero => exact absurd HA.out (by simp [spec_FirstMeeting.l0])
     | succ k2 =>
      have H := HA.out
      clear HA
      simp only [spec_FirstMeeting.l0] at H
      by_cases c19 : x9_2 ≤ 100000
      ·rw [if_pos c19] at H
       have c19b0 : decide (x9_2 ≤ 100000) = true := decide_eq_true c19
       clear c19
       replace H := Option.bind_eq_some_iff.mp H
       obtain ⟨t290, A200, H⟩ := H
       (try dsimp only at H)
       have A20 := Aside0.mk A200
       clear A200
       by_cases c21 : t290 = true
       ·subst c21
        rw [if_pos rfl] at H
        replace H := Option.bind_eq_some_iff.mp H
        obtain ⟨t291, A220, H⟩ := H
        (try dsimp only at H)
        have A22 := Aside0.mk A220
        clear A220
        simp only [Option.some.injEq, Prod.mk.injEq] at H
        obtain ⟨rfl, rfl, rfl⟩ := H
        have hnb23 := NB286_287.out
        have hnc23 := NB287_286.out
        have hcz24_0 : wr.cell? ⟨gb286, 0, none⟩ = some (.int .i64 a1_0) := ec BK286
        have hcz24_1 : wr.cell? ⟨gb286, 1, none⟩ = some (.bool a1_1) := ec BK286
        have hcz24_2 : wr.cell? ⟨gb286, 2, none⟩ = some (.int .i64 a1_2) := ec BK286
        have hfz24_0 := blk_frozen BK286.out 0
        have hfz24_1 := blk_frozen BK286.out 1
        have hfz24_2 := blk_frozen BK286.out 2
        have hcz25_0 : wr.cell? ⟨gb287, 0, none⟩ = some (.int .i64 a2_0) := ec BK287
        have hcz25_1 : wr.cell? ⟨gb287, 1, none⟩ = some (.bool a2_1) := ec BK287
        have hcz25_2 : wr.cell? ⟨gb287, 2, none⟩ = some (.int .i64 a2_2) := ec BK287
        have hfz25_0 := blk_frozen BK287.out 0
        have hfz25_1 := blk_frozen BK287.out 1
        have hfz25_2 := blk_frozen BK287.out 2
        go_wp2_with (first | ((with_reducible refine gate_callee (f := 39) rfl ?_); refine gl (some 28) Try.func39 #[.int .i64 a0, .agg #[.int .i64 a1_0, .bool a1_1, .int .i64 a1_2], .agg #[.int .i64 a2_0, .bool a2_1, .int .i64 a2_2], .int .i64 x9_2] ?_; (with_reducible refine (spec_siMeet.calls k2 a0 a1_0 a1_1 a1_2 a2_0 a2_1 a2_2 x9_2 true _ A20.out).mono ?_); rintro e w26 ⟨rfl, hb⟩; refine ⟨_, rfl, ?_⟩; replace BK286 := nk BK286 hb; replace BK287 := nk BK287 hb; replace HB := bs hb; (try clear hb); have hcz27_0 := bc BK286 0 (.int .i64 a1_0); have hcz27_1 := bc BK286 1 (.bool a1_1); have hcz27_2 := bc BK286 2 (.int .i64 a1_2); have hfz27_0 := blk_frozen BK286.out 0; have hfz27_1 := blk_frozen BK286.out 1; have hfz27_2 := blk_frozen BK286.out 2) | ((with_reducible refine gate_callee (f := 28) rfl ?_); refine gl (some 33) Try.func28 #[.int .i64 a0, .agg #[.int .i64 a1_0, .bool a1_1, .int .i64 a1_2], .int .i64 x9_2] ?_; (with_reducible refine (spec_siAt.calls a0 a1_0 a1_1 a1_2 x9_2 t291 _ A22.out).mono ?_); rintro e w28 ⟨rfl, hb⟩; refine ⟨_, rfl, ?_⟩; replace BK286 := nk BK286 hb; replace BK287 := nk BK287 hb; replace HB := bs hb; (try clear hb)))
        go_ret3
        exact ⟨rs, bw⟩
       ·replace c21 := Bool.eq_false_iff.mpr c21
        subst c21
        rw [if_neg (show ¬ (false = true) by decide)] at H
        have H' := Aside0.mk H
        clear H
        have hnb29 := NB286_287.out
        have hnc29 := NB287_286.out
        have hcz30_0 : wr.cell? ⟨gb286, 0, none⟩ = some (.int .i64 a1_0) := ec BK286
        have hcz30_1 : wr.cell? ⟨gb286, 1, none⟩ = some (.bool a1_1) := ec BK286
        have hcz30_2 : wr.cell? ⟨gb286, 2, none⟩ = some (.int .i64 a1_2) := ec BK286
        have hfz30_0 := blk_frozen BK286.out 0
        have hfz30_1 := blk_frozen BK286.out 1
        have hfz30_2 := blk_frozen BK286.out 2
        have hcz31_0 : wr.cell? ⟨gb287, 0, none⟩ = some (.int .i64 a2_0) := ec BK287
        have hcz31_1 : wr.cell? ⟨gb287, 1, none⟩ = some (.bool a2_1) := ec BK287
        have hcz31_2 : wr.cell? ⟨gb287, 2, none⟩ = some (.int .i64 a2_2) := ec BK287
        have hfz31_0 := blk_frozen BK287.out 0
        have hfz31_1 := blk_frozen BK287.out 1
        have hfz31_2 := blk_frozen BK287.out 2
        go_wp2_with (first | ((with_reducible refine gate_callee (f := 39) rfl ?_); refine gl (some 28) Try.func39 #[.int .i64 a0, .agg #[.int .i64 a1_0, .bool a1_1, .int .i64 a1_2], .agg #[.int .i64 a2_0, .bool a2_1, .int .i64 a2_2], .int .i64 x9_2] ?_; (with_reducible refine (spec_siMeet.calls k2 a0 a1_0 a1_1 a1_2 a2_0 a2_1 a2_2 x9_2 false _ A20.out).mono ?_); rintro e w32 ⟨rfl, hb⟩; refine ⟨_, rfl, ?_⟩; replace BK286 := nk BK286 hb; replace BK287 := nk BK287 hb; replace HB := bs hb; (try clear hb)))
        go_roundg k2
        case measure => have := HJ3.out; have := HK2.out; omega
        case rel => exact ⟨(wrap64 (x9_2 + 1)), (rs), H', ⟨by have := HJ3.out; have := HK2.out; omega⟩, ⟨pk BK286⟩, ⟨pk BK287⟩, ⟨bw⟩⟩
      ·rw [if_neg c19] at H
       have c19b0 : decide (x9_2 ≤ 100000) = false := decide_eq_false c19
       clear c19
       simp only [Option.some.injEq, Prod.mk.injEq] at H
       obtain ⟨rfl, rfl, rfl⟩ := H
       go_wp2
       go_ret3
       exact ⟨rs, bw⟩

end Go.Proofs.Ytlhhbkdeginhoaa.PFnSignalsGo
