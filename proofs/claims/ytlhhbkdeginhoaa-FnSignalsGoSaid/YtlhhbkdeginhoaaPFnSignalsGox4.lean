-- Laid by xprint, a program of this session that runs over the kit's print.
import Derived.Test.YtlhhbkdeginhoaaPFnSignalsGox0
import Derived.Test.YtlhhbkdeginhoaaPFnSignalsGox2
namespace Go.Proofs.Ytlhhbkdeginhoaa.PFnSignalsGo
open Go.RowKit Go.Proofs.YtlhhbkdeginhoaaW.PrintWords Go.Proofs.YtlhhbkdeginhoaaW.PrintLast Go.Proofs.YtlhhbkdeginhoaaW.PrintMore Go.Proofs.Ytlhhbkdeginhoaa.Sq
attribute [local go_sem] max2_int min2_int max_two min_two max_three min_three max_four min_four   -- for this text's walks alone
set_option linter.unusedVariables false
set_option linter.unusedSimpArgs false

/-! ### impl_Signal_comes: function 34 -/
def impl_Signal_comes.f (a0_0 : Int) (a0_1 : Bool) (a0_2 : Int) (a1 : Int) (a2 : Int) : Option (Bool) := if a2 = 0 then (some true) else (if a1 > 1 then (if a0_2 = 0 then (none) else (some ((Int.tmod a2 a0_2) == 0))) else (some false))
set_option maxHeartbeats 8000000 in
set_option maxRecDepth 100000 in
theorem impl_Signal_comes.calls (a0_0 : Int) (a0_1 : Bool) (a0_2 : Int) (a1 : Int) (a2 : Int) (r : Bool) (w : World) (h : impl_Signal_comes.f a0_0 a0_1 a0_2 a1 a2 = some r) :
  Calls Try.prog 34 #[.agg #[.int .i64 a0_0, .bool a0_1, .int .i64 a0_2], .int .i64 a1, .int .i64 a2] w fun e w' => e = .returned (.bool r) ∧ Below w.heap.size w w' := by
 have hu25 := Try.underlying25
 have HB := Aside0.mk (Below.refl w.heap.size w)
 unfold impl_Signal_comes.f at h
 have H := h
 clear h
 by_cases c4 : a2 = 0
 ·rw [if_pos c4] at H
  have c4b0 : (a2 == 0) = true := beq_iff_eq.mpr c4
  have c4b1 : (a2 != 0) = false := bne_eq_false_iff_eq.mpr c4
  clear c4
  obtain rfl := Option.some.inj H
  go_enter Try.func34, Try.ntmps34
  go_wp2_with (first | ((with_reducible refine gate_dst (N := 3) rfl ?_); refine bx 3 25 #[.int .i64 a0_0, .bool a0_1, .int .i64 a0_2] ?_; intro gb227 hg w5 hbox hb; have BK227 := hbox; have GW227 := gs hg; have GE227 := gs hg; replace HB := bs hb; clear hb hbox hg))
  go_ret
  exact ⟨rs, bw⟩
 ·rw [if_neg c4] at H
  have c4b0 : (a2 == 0) = false := beq_eq_false_iff_ne.mpr c4
  have c4b1 : (a2 != 0) = true := bne_iff_ne.mpr c4
  by_cases c6 : a1 > 1
  ·rw [if_pos c6] at H
   have c6b0 : decide (1 < a1) = true := decide_eq_true c6
   clear c6
   by_cases c7 : a0_2 = 0
   ·rw [if_pos c7] at H
    exact absurd H (by simp)
   ·rw [if_neg c7] at H
    have c7b0 : (a0_2 == 0) = false := beq_eq_false_iff_ne.mpr c7
    have c7b1 : (a0_2 != 0) = true := bne_iff_ne.mpr c7
    obtain rfl := Option.some.inj H
    go_enter Try.func34, Try.ntmps34
    go_wp2_with (first | ((with_reducible refine gate_dst (N := 3) rfl ?_); refine bx 3 25 #[.int .i64 a0_0, .bool a0_1, .int .i64 a0_2] ?_; intro gb227 hg w8 hbox hb; have BK227 := hbox; have GW227 := gs hg; have GE227 := gs hg; replace HB := bs hb; clear hb hbox hg; have hcz9_0 := bc BK227 0 (.int .i64 a0_0); have hcz9_1 := bc BK227 1 (.bool a0_1); have hcz9_2 := bc BK227 2 (.int .i64 a0_2); have hfz9_0 := blk_frozen BK227.out 0; have hfz9_1 := blk_frozen BK227.out 1; have hfz9_2 := blk_frozen BK227.out 2))
    go_ret
    exact ⟨rs, bw⟩
  ·rw [if_neg c6] at H
   have c6b0 : decide (1 < a1) = false := decide_eq_false c6
   clear c6
   obtain rfl := Option.some.inj H
   go_enter Try.func34, Try.ntmps34
   go_wp2_with (first | ((with_reducible refine gate_dst (N := 3) rfl ?_); refine bx 3 25 #[.int .i64 a0_0, .bool a0_1, .int .i64 a0_2] ?_; intro gb227 hg w10 hbox hb; have BK227 := hbox; have GW227 := gs hg; have GE227 := gs hg; replace HB := bs hb; clear hb hbox hg))
   go_ret
   exact ⟨rs, bw⟩

/-! ### impl_TimesAt: function 11 -/
mutual
def impl_TimesAt.j0 : Nat → Int → Int → Int → Bool → Int → Bool → Int → Option (List Int × Bool)
  | 0, _, _, _, _, _, _, _ => none
  | k + 1, x0, x2, x3, x27, x229000, x229001, x229002 => if x27 = true then (some (([] : List Int), false)) else (impl_TimesAt.l0 k x0 x2 (([] : List Int)) (wrap64 (x3 + 1)) 0 x229000 x229001 x229002)
def impl_TimesAt.l0 : Nat → Int → Int → List Int → Int → Int → Int → Bool → Int → Option (List Int × Bool)
  | 0, _, _, _, _, _, _, _, _ => none
  | k + 1, x0, x2, x10, x30, x31, x229000, x229001, x229002 => if x31 < x30 then ((impl_Signal_comes.f x229000 x229001 x229002 x0 x31).bind fun t235 => (if t235 = true then ((impl_Signal_place.f x229000 x229001 x229002 x0 x31).bind fun t236 => (if t236 = x2 then (if x10.length < 17592186044416 then (impl_TimesAt.l0 k x0 x2 (x10 ++ [x31]) x30 (wrap64 (x31 + 1)) x229000 x229001 x229002) else (none)) else (impl_TimesAt.l0 k x0 x2 x10 x30 (wrap64 (x31 + 1)) x229000 x229001 x229002))) else (impl_TimesAt.l0 k x0 x2 x10 x30 (wrap64 (x31 + 1)) x229000 x229001 x229002))) else (some (x10, true))
end
def impl_TimesAt.f (k : Nat) (a0 : Int) (a1_0 : Int) (a1_1 : Bool) (a1_2 : Int) (a2 : Int) (a3 : Int) : Option (List Int × Bool) := (impl_isSignal.f a0 a1_0 a1_1 a1_2).bind fun t229 => (if t229 = true then ((impl_in.f a2 0 (wrap64 (a0 - 1))).bind fun t230 => (if t230 = true then ((impl_in.f a3 0 1000).bind fun t231 => (impl_TimesAt.j0 k a0 a2 a3 (!t231) a1_0 a1_1 a1_2)) else (impl_TimesAt.j0 k a0 a2 a3 true a1_0 a1_1 a1_2))) else (impl_TimesAt.j0 k a0 a2 a3 true a1_0 a1_1 a1_2))
theorem impl_TimesAt.mono_l : ∀ k, (∀ y0 y1 y2 y3 y4 y5 y6, LeO (impl_TimesAt.j0 k y0 y1 y2 y3 y4 y5 y6) (impl_TimesAt.j0 (k + 1) y0 y1 y2 y3 y4 y5 y6)) ∧ (∀ y0 y1 y2 y3 y4 y5 y6 y7, LeO (impl_TimesAt.l0 k y0 y1 y2 y3 y4 y5 y6 y7) (impl_TimesAt.l0 (k + 1) y0 y1 y2 y3 y4 y5 y6 y7))
  | 0 => ⟨fun _ _ _ _ _ _ _ r h => by simp [impl_TimesAt.j0] at h, fun _ _ _ _ _ _ _ _ r h => by simp [impl_TimesAt.l0] at h⟩
  | k + 1 => by
    obtain ⟨ih0, ih1⟩ := impl_TimesAt.mono_l k
    refine ⟨?_, ?_⟩
    · intro y0 y1 y2 y3 y4 y5 y6
      unfold impl_TimesAt.j0
      repeat' first
      | (with_reducible exact ih0 _ _ _ _ _ _ _)
      | (with_reducible exact ih1 _ _ _ _ _ _ _ _)
      | (with_reducible exact LeO.refl _)
      | (with_reducible exact LeO.none _)
      | (with_reducible refine LeO.ite ?_ ?_)
      | (with_reducible refine LeO.bind ?_ (fun _ => ?_))
      | exact ih0 _ _ _ _ _ _ _
      | exact ih1 _ _ _ _ _ _ _ _
      | exact LeO.none _
      | refine LeO.ite ?_ ?_
      | refine LeO.bind ?_ (fun _ => ?_)
    · intro y0 y1 y2 y3 y4 y5 y6 y7
      unfold impl_TimesAt.l0
      repeat' first
      | (with_reducible exact ih0 _ _ _ _ _ _ _)
      | (with_reducible exact ih1 _ _ _ _ _ _ _ _)
      | (with_reducible exact LeO.refl _)
      | (with_reducible exact LeO.none _)
      | (with_reducible refine LeO.ite ?_ ?_)
      | (with_reducible refine LeO.bind ?_ (fun _ => ?_))
      | exact ih0 _ _ _ _ _ _ _
      | exact ih1 _ _ _ _ _ _ _ _
      | exact LeO.none _
      | refine LeO.ite ?_ ?_
      | refine LeO.bind ?_ (fun _ => ?_)
theorem impl_TimesAt.mono : ∀ a0 a1 a2 a3 a4 a5 k, LeO (impl_TimesAt.f k a0 a1 a2 a3 a4 a5) (impl_TimesAt.f (k + 1) a0 a1 a2 a3 a4 a5) := by
  intro a0 a1 a2 a3 a4 a5 k
  obtain ⟨ih0, ih1⟩ := impl_TimesAt.mono_l k
  unfold impl_TimesAt.f
  repeat' first
      | (with_reducible exact ih0 _ _ _ _ _ _ _)
      | (with_reducible exact ih1 _ _ _ _ _ _ _ _)
      | (with_reducible exact LeO.refl _)
      | (with_reducible exact LeO.none _)
      | (with_reducible refine LeO.ite ?_ ?_)
      | (with_reducible refine LeO.bind ?_ (fun _ => ?_))
      | exact ih0 _ _ _ _ _ _ _
      | exact ih1 _ _ _ _ _ _ _ _
      | exact LeO.none _
      | refine LeO.ite ?_ ?_
      | refine LeO.bind ?_ (fun _ => ?_)
set_option maxHeartbeats 8000000 in
set_option maxRecDepth 100000 in
theorem impl_TimesAt.calls (k : Nat) (a0 : Int) (a1_0 : Int) (a1_1 : Bool) (a1_2 : Int) (a2 : Int) (a3 : Int) (r1 : List Int) (r2 : Bool) (w : World) (h : impl_TimesAt.f k a0 a1_0 a1_1 a1_2 a2 a3 = some (r1, r2)) :
  Calls Try.prog 11 #[.int .i64 a0, .agg #[.int .i64 a1_0, .bool a1_1, .int .i64 a1_2], .int .i64 a2, .int .i64 a3] w fun e w' => ∃ v0_ : Value, e = .returned (.tuple #[v0_, .bool r2]) ∧ Kd.R (Kd.int .i64) 3 w' w.heap.size (fun _ => True) v0_ r1 ∧ Below w.heap.size w w' := by
 have hu25 := Try.underlying25
 have HB := Aside0.mk (Below.refl w.heap.size w)
 unfold impl_TimesAt.f at h
 have H := h
 clear h
 have HC5 := Aside0.mk H
 clear H
 go_enter Try.func11, Try.ntmps11
 go_upto_region 1 with (first | ((with_reducible refine gate_dst (N := 5) rfl ?_); refine bx 5 25 #[.int .i64 a1_0, .bool a1_1, .int .i64 a1_2] ?_; intro gb228 hg w6 hbox hb; have BK228 := hbox; have GW228 := gs hg; have GE228 := gs hg; replace HB := bs hb; clear hb hbox hg))
 (try simp only [Act.put, List.setIfInBounds_toArray, List.set_cons_zero, List.set_cons_succ])
 go_cut [27] (fun v27 wc => ∃ (kq : Nat) (x27_4 : Bool), v27 = .bool x27_4 ∧ Aside0 (impl_TimesAt.j0 kq a0 a2 a3 x27_4 a1_0 a1_1 a1_2 = some (r1, r2)) ∧ Aside0 (kq ≤ k) ∧ Aside0 (wc.heap[gb228]? = some (.cells #[.int .i64 a1_0, .bool a1_1, .int .i64 a1_2] 25 (0, 0))) ∧ Aside0 (Below w.heap.size w wc))
 case first =>
  have H := HC5.out
  clear HC5
  replace H := Option.bind_eq_some_iff.mp H
  obtain ⟨t229, A70, H⟩ := H
  (try dsimp only at H)
  have A7 := Aside0.mk A70
  clear A70
  by_cases c8 : t229 = true
  ·subst c8
   rw [if_pos rfl] at H
   replace H := Option.bind_eq_some_iff.mp H
   obtain ⟨t230, A90, H⟩ := H
   (try dsimp only at H)
   have A9 := Aside0.mk A90
   clear A90
   by_cases c10 : t230 = true
   ·subst c10
    rw [if_pos rfl] at H
    replace H := Option.bind_eq_some_iff.mp H
    obtain ⟨t231, A110, H⟩ := H
    (try dsimp only at H)
    have A11 := Aside0.mk A110
    clear A110
    have H' := Aside0.mk H
    clear H
    have hcz12_0 := bc BK228 0 (.int .i64 a1_0)
    have hcz12_1 := bc BK228 1 (.bool a1_1)
    have hcz12_2 := bc BK228 2 (.int .i64 a1_2)
    have hfz12_0 := blk_frozen BK228.out 0
    have hfz12_1 := blk_frozen BK228.out 1
    have hfz12_2 := blk_frozen BK228.out 2
    go_wp2_with (first | ((with_reducible refine gate_callee (f := 23) rfl ?_); refine gl (some 14) Try.func23 #[.int .i64 a0, .agg #[.int .i64 a1_0, .bool a1_1, .int .i64 a1_2]] ?_; (with_reducible refine (impl_isSignal.calls a0 a1_0 a1_1 a1_2 true _ A7.out).mono ?_); rintro e w13 ⟨rfl, hb⟩; refine ⟨_, rfl, ?_⟩; replace BK228 := nk BK228 hb; replace HB := bs hb; (try clear hb)) | (go_at_call 33; (with_reducible refine (impl_in.calls a2 0 (wrap64 (a0 - 1)) true _ A9.out).mono ?_); rintro e w' ⟨rfl, ⟨nd, rfl⟩⟩) | (go_at_call 33; (with_reducible refine (impl_in.calls a3 0 1000 t231 _ A11.out).mono ?_); rintro e w' ⟨rfl, ⟨nd, rfl⟩⟩))
    go_meet
    case rel => exact ⟨_, (!t231), (rs), H', ⟨by first | omega | exact Nat.le_refl _⟩, ⟨pk BK228⟩, ⟨bw⟩⟩
   ·replace c10 := Bool.eq_false_iff.mpr c10
    subst c10
    rw [if_neg (show ¬ (false = true) by decide)] at H
    have H' := Aside0.mk H
    clear H
    have hcz14_0 := bc BK228 0 (.int .i64 a1_0)
    have hcz14_1 := bc BK228 1 (.bool a1_1)
    have hcz14_2 := bc BK228 2 (.int .i64 a1_2)
    have hfz14_0 := blk_frozen BK228.out 0
    have hfz14_1 := blk_frozen BK228.out 1
    have hfz14_2 := blk_frozen BK228.out 2
    go_wp2_with (first | ((with_reducible refine gate_callee (f := 23) rfl ?_); refine gl (some 14) Try.func23 #[.int .i64 a0, .agg #[.int .i64 a1_0, .bool a1_1, .int .i64 a1_2]] ?_; (with_reducible refine (impl_isSignal.calls a0 a1_0 a1_1 a1_2 true _ A7.out).mono ?_); rintro e w15 ⟨rfl, hb⟩; refine ⟨_, rfl, ?_⟩; replace BK228 := nk BK228 hb; replace HB := bs hb; (try clear hb)) | (go_at_call 33; (with_reducible refine (impl_in.calls a2 0 (wrap64 (a0 - 1)) false _ A9.out).mono ?_); rintro e w' ⟨rfl, ⟨nd, rfl⟩⟩))
    go_meet
    case rel => exact ⟨_, (true), (rs), H', ⟨by first | omega | exact Nat.le_refl _⟩, ⟨pk BK228⟩, ⟨bw⟩⟩
  ·replace c8 := Bool.eq_false_iff.mpr c8
   subst c8
   rw [if_neg (show ¬ (false = true) by decide)] at H
   have H' := Aside0.mk H
   clear H
   have hcz16_0 := bc BK228 0 (.int .i64 a1_0)
   have hcz16_1 := bc BK228 1 (.bool a1_1)
   have hcz16_2 := bc BK228 2 (.int .i64 a1_2)
   have hfz16_0 := blk_frozen BK228.out 0
   have hfz16_1 := blk_frozen BK228.out 1
   have hfz16_2 := blk_frozen BK228.out 2
   go_wp2_with (first | ((with_reducible refine gate_callee (f := 23) rfl ?_); refine gl (some 14) Try.func23 #[.int .i64 a0, .agg #[.int .i64 a1_0, .bool a1_1, .int .i64 a1_2]] ?_; (with_reducible refine (impl_isSignal.calls a0 a1_0 a1_1 a1_2 false _ A7.out).mono ?_); rintro e w17 ⟨rfl, hb⟩; refine ⟨_, rfl, ?_⟩; replace BK228 := nk BK228 hb; replace HB := bs hb; (try clear hb)))
   go_meet
   case rel => exact ⟨_, (true), (rs), H', ⟨by first | omega | exact Nat.le_refl _⟩, ⟨pk BK228⟩, ⟨bw⟩⟩
 case rest =>
  clear HC5
  try clear c1
  try clear c2
  try clear p2
  try clear p6
  try clear c8
  try clear c10
  try clear c11
  try clear hcz12_0
  try clear hcz12_1
  try clear hcz12_2
  try clear hcz14_0
  try clear hcz14_1
  try clear hcz14_2
  try clear hcz16_0
  try clear hcz16_1
  try clear hcz16_2
  try clear hfz12_0
  try clear hfz12_1
  try clear hfz12_2
  try clear hfz14_0
  try clear hfz14_1
  try clear hfz14_2
  try clear hfz16_0
  try clear hfz16_1
  try clear hfz16_2
  obtain ⟨kq, x27_4, rfl, HA, HJ4, BK228, HB⟩ := hcut
  cases kq with
  | zero => exact absurd HA.out (by simp [impl_TimesAt.j0])
  | succ kj4 =>
   have H := HA.out
   clear HA
   simp only [impl_TimesAt.j0] at H
   by_cases c18 : x27_4 = true
   ·subst c18
    rw [if_pos rfl] at H
    simp only [Option.some.injEq, Prod.mk.injEq] at H
    obtain ⟨rfl, rfl⟩ := H
    go_wp2
    go_ret2
    exact ⟨_, rs, by first | exact Kd.R_nil _ _ _ _ _ | exact Kd.N_nil _ _ _ _ _ | exact Kd.V_nil _ _ _ _ _ | exact Kd.Q_nil _ _ _ _ _ | exact Kd.S_nil _ _ _ _ _, bw⟩
   ·replace c18 := Bool.eq_false_iff.mpr c18
    subst c18
    rw [if_neg (show ¬ (false = true) by decide)] at H
    obtain ⟨y232, hy232⟩ : ∃ y_ : List Int, y_ = (([] : List Int)) := ⟨_, rfl⟩
    replace H : (impl_TimesAt.l0 kj4 a0 a2 y232 (wrap64 (a3 + 1)) 0 a1_0 a1_1 a1_2) = some (r1, r2) := by first | (rw [hy232]; with_reducible exact H) | (have H2_ := (Option.bind_some _ _).symm.trans H; rw [hy232]; with_reducible exact H2_) | (have H2_ := (Option.bind_some _ _).symm.trans H; with_reducible exact H2_) | with_reducible exact H | (rw [hy232]; exact H) | exact H
    have Ny232 := Aside0.mk hy232
    clear hy232
    have H' := Aside0.mk H
    clear H
    go_wp2_with (first | ((with_reducible refine gate_dst (N := 28) rfl ?_); refine Kd.R_lit (Kd.int .i64) _ 3 ?hg (N := 28) ?hd (xs := ([] : List Int)) (inner := []) (ok := fun _ => True) (okp := fun _ => True) ?hr ?hp (fun _ hk => hk) trivial (Below.refl _ _) (Nat.le_refl _) (by simp) ?_; (case hd => rfl); (case hg => rfl); (case hr => first | (go_simp; done) | (go_simp; rfl)); (case hp => exact (Reps.none _ _)); intro v233 w19 ho20 hb hg_ hnew_; clear hg_ hnew_; (first | rw [← Ny232.out] at ho20 | (simp only [Int.reduceToNat] at ho20; rw [← Ny232.out] at ho20)); have HO234 := Aside0.mk (Kd.R_lower ho20 (below_size bw)); replace BK228 := nk BK228 hb; replace HB := bs hb; clear hb ho20))
    go_loopg [10, 31] kj4 (fun kq v10 v31 w' => ∃ (x10_2 : List Int) (x31_2 : Int), v31 = .int .i64 x31_2 ∧ Aside0 (impl_TimesAt.l0 kq a0 a2 x10_2 (wrap64 (a3 + 1)) x31_2 a1_0 a1_1 a1_2 = some (r1, r2)) ∧ Aside0 (kq ≤ kj4) ∧ Aside0 (Kd.R (Kd.int .i64) 3 w' w.heap.size (fun _ => True) v10 x10_2) ∧ Aside0 (w'.heap[gb228]? = some (.cells #[.int .i64 a1_0, .bool a1_1, .int .i64 a1_2] 25 (0, 0))) ∧ Aside0 (Below w.heap.size w w'))
    case atStart => exact ⟨(y232), (0), (rs), H', ⟨Nat.le_refl _⟩, ⟨pr HO234⟩, ⟨pk BK228⟩, ⟨bw⟩⟩
    case round =>
     clear H'
     try clear c1
     try clear c2
     try clear p2
     try clear p6
     try clear c8
     try clear c10
     try clear c11
     try clear c18
     try clear hcz12_0
     try clear hcz12_1
     try clear hcz12_2
     try clear hcz14_0
     try clear hcz14_1
     try clear hcz14_2
     try clear hcz16_0
     try clear hcz16_1
     try clear hcz16_2
     try clear hfz12_0
     try clear hfz12_1
     try clear hfz12_2
     try clear hfz14_0
     try clear hfz14_1
     try clear hfz14_2
     try clear hfz16_0
     try clear hfz16_1
     try clear hfz16_2
     try clear p2
     try clear p6
     obtain ⟨x10_2, x31_2, rfl, HA, HK2, HO_10, BK228, HB⟩ := hrel
     cases gk with
     | zero => exact absurd HA.out (by simp [impl_TimesAt.l0])
     | succ k2 =>
      have H := HA.out
      clear HA
      simp only [impl_TimesAt.l0] at H
      by_cases c21 : x31_2 < (wrap64 (a3 + 1))
      ·rw [if_pos c21] at H
       have c21b0 : decide (x31_2 < (wrap64 (a3 + 1))) = true := decide_eq_true c21
       clear c21
       replace H := Option.bind_eq_some_iff.mp H
       obtain ⟨t235, A220, H⟩ := H
       (try dsimp only at H)
       have A22 := Aside0.mk A220
       clear A220
       by_cases c23 : t235 = true
       ·subst c23
        rw [if_pos rfl] at H
        replace H := Option.bind_eq_some_iff.mp H
        obtain ⟨t236, A240, H⟩ := H
        (try dsimp only at H)
        have A24 := Aside0.mk A240
        clear A240
        by_cases c25 : t236 = a2
        ·rw [if_pos c25] at H
         have c25b0 : (t236 == a2) = true := beq_iff_eq.mpr c25
         have c25b1 : (t236 != a2) = false := bne_eq_false_iff_eq.mpr c25
         clear c25
         by_cases c26 : x10_2.length < 17592186044416
         ·rw [if_pos c26] at H
          have LMc26 := Aside0.mk c26
          clear c26
          obtain ⟨y237, hy237⟩ : ∃ y_ : List Int, y_ = (x10_2 ++ [x31_2]) := ⟨_, rfl⟩
          replace H : (impl_TimesAt.l0 k2 a0 a2 y237 (wrap64 (a3 + 1)) (wrap64 (x31_2 + 1)) a1_0 a1_1 a1_2) = some (r1, r2) := by first | (rw [hy237]; with_reducible exact H) | (have H2_ := (Option.bind_some _ _).symm.trans H; rw [hy237]; with_reducible exact H2_) | (have H2_ := (Option.bind_some _ _).symm.trans H; with_reducible exact H2_) | with_reducible exact H | (rw [hy237]; exact H) | exact H
          have Ny237 := Aside0.mk hy237
          clear hy237
          have H' := Aside0.mk H
          clear H
          have hcz27_0 : wr.cell? ⟨gb228, 0, none⟩ = some (.int .i64 a1_0) := ec BK228
          have hcz27_1 : wr.cell? ⟨gb228, 1, none⟩ = some (.bool a1_1) := ec BK228
          have hcz27_2 : wr.cell? ⟨gb228, 2, none⟩ = some (.int .i64 a1_2) := ec BK228
          have hfz27_0 := blk_frozen BK228.out 0
          have hfz27_1 := blk_frozen BK228.out 1
          have hfz27_2 := blk_frozen BK228.out 2
          go_wp2_with (first | ((with_reducible refine gate_callee (f := 34) rfl ?_); refine gl (some 37) Try.func34 #[.agg #[.int .i64 a1_0, .bool a1_1, .int .i64 a1_2], .int .i64 a0, .int .i64 x31_2] ?_; (with_reducible refine (impl_Signal_comes.calls a1_0 a1_1 a1_2 a0 x31_2 true _ A22.out).mono ?_); rintro e w28 ⟨rfl, hb⟩; refine ⟨_, rfl, ?_⟩; replace HO_10 := Aside0.mk (Kd.R_below (pr HO_10) hb); replace BK228 := nk BK228 hb; replace HB := bs hb; (try clear hb); have hcz29_0 := bc BK228 0 (.int .i64 a1_0); have hcz29_1 := bc BK228 1 (.bool a1_1); have hcz29_2 := bc BK228 2 (.int .i64 a1_2); have hfz29_0 := blk_frozen BK228.out 0; have hfz29_1 := blk_frozen BK228.out 1; have hfz29_2 := blk_frozen BK228.out 2) | (go_at_call 25; (with_reducible refine (impl_Signal_place.calls a1_0 a1_1 a1_2 a0 x31_2 t236 _ A24.out).mono ?_); rintro e w30 ⟨rfl, hb⟩; replace HO_10 := Aside0.mk (Kd.R_below (pr HO_10) hb); replace BK228 := nk BK228 hb; replace HB := bs hb; (try clear hb)) | ((with_reducible refine gate_builtin (b := .append) (xs := #[.tmp 46, .tmp 48]) rfl ?_); at_builtin; refine Kd.R_append (Kd.int .i64) (w0 := w) w.heap.size rfl (.tmp 46) (.tmp 48) 33 3 (.int .i64 0) 8 rfl Try.underlying33 info3 rfl (by decide) (by omega) u10 x10_2 x31_2 [.int .i64 x31_2] (fun _ => True) (fun _ => False) rfl rfl ?aP (fun _ hk => hk.elim) ?aF ?aO ?aB ?aS ?aL ?_; (case aP => exact rfl); (case aB => exact bw); (case aF => exact (fun _ _ => trivial)); (case aO => exact (pr HO_10)); (case aS => exact (below_size bw)); (case aL => have := LMc26.out; omega); intro v238 w31 ho hb hg hat; rw [← Ny237.out] at ho; have n0_ := Aside0.mk (blk_grown (pk BK228) hg (Kd.R_ne HO_10.out BK228.out (by decide))); have n1_ := Aside0.mk (hb); have n2_ := Aside0.mk (ho); clear BK228; clear HB; clear HO_10; have BK228 := n0_; have HB := n1_; have HO239 := n2_; clear n0_ n1_ n2_; clear ho hb hg hat))
          go_roundg k2
          case measure => have := HJ4.out; have := HK2.out; omega
          case rel => exact ⟨(y237), (wrap64 (x31_2 + 1)), (rs), H', ⟨by have := HJ4.out; have := HK2.out; omega⟩, ⟨pr HO239⟩, ⟨pk BK228⟩, ⟨bw⟩⟩
         ·rw [if_neg c26] at H
          exact absurd H (by simp)
        ·rw [if_neg c25] at H
         have c25b0 : (t236 == a2) = false := beq_eq_false_iff_ne.mpr c25
         have c25b1 : (t236 != a2) = true := bne_iff_ne.mpr c25
         have H' := Aside0.mk H
         clear H
         have hcz32_0 : wr.cell? ⟨gb228, 0, none⟩ = some (.int .i64 a1_0) := ec BK228
         have hcz32_1 : wr.cell? ⟨gb228, 1, none⟩ = some (.bool a1_1) := ec BK228
         have hcz32_2 : wr.cell? ⟨gb228, 2, none⟩ = some (.int .i64 a1_2) := ec BK228
         have hfz32_0 := blk_frozen BK228.out 0
         have hfz32_1 := blk_frozen BK228.out 1
         have hfz32_2 := blk_frozen BK228.out 2
         go_wp2_with (first | ((with_reducible refine gate_callee (f := 34) rfl ?_); refine gl (some 37) Try.func34 #[.agg #[.int .i64 a1_0, .bool a1_1, .int .i64 a1_2], .int .i64 a0, .int .i64 x31_2] ?_; (with_reducible refine (impl_Signal_comes.calls a1_0 a1_1 a1_2 a0 x31_2 true _ A22.out).mono ?_); rintro e w33 ⟨rfl, hb⟩; refine ⟨_, rfl, ?_⟩; replace HO_10 := Aside0.mk (Kd.R_below (pr HO_10) hb); replace BK228 := nk BK228 hb; replace HB := bs hb; (try clear hb); have hcz34_0 := bc BK228 0 (.int .i64 a1_0); have hcz34_1 := bc BK228 1 (.bool a1_1); have hcz34_2 := bc BK228 2 (.int .i64 a1_2); have hfz34_0 := blk_frozen BK228.out 0; have hfz34_1 := blk_frozen BK228.out 1; have hfz34_2 := blk_frozen BK228.out 2) | (go_at_call 25; (with_reducible refine (impl_Signal_place.calls a1_0 a1_1 a1_2 a0 x31_2 t236 _ A24.out).mono ?_); rintro e w35 ⟨rfl, hb⟩; replace HO_10 := Aside0.mk (Kd.R_below (pr HO_10) hb); replace BK228 := nk BK228 hb; replace HB := bs hb; (try clear hb)))
         go_roundg k2
         case measure => have := HJ4.out; have := HK2.out; omega
         case rel => exact ⟨(x10_2), (wrap64 (x31_2 + 1)), (rs), H', ⟨by have := HJ4.out; have := HK2.out; omega⟩, ⟨pr HO_10⟩, ⟨pk BK228⟩, ⟨bw⟩⟩
       ·replace c23 := Bool.eq_false_iff.mpr c23
        subst c23
        rw [if_neg (show ¬ (false = true) by decide)] at H
        have H' := Aside0.mk H
        clear H
        have hcz36_0 : wr.cell? ⟨gb228, 0, none⟩ = some (.int .i64 a1_0) := ec BK228
        have hcz36_1 : wr.cell? ⟨gb228, 1, none⟩ = some (.bool a1_1) := ec BK228
        have hcz36_2 : wr.cell? ⟨gb228, 2, none⟩ = some (.int .i64 a1_2) := ec BK228
        have hfz36_0 := blk_frozen BK228.out 0
        have hfz36_1 := blk_frozen BK228.out 1
        have hfz36_2 := blk_frozen BK228.out 2
        go_wp2_with (first | ((with_reducible refine gate_callee (f := 34) rfl ?_); refine gl (some 37) Try.func34 #[.agg #[.int .i64 a1_0, .bool a1_1, .int .i64 a1_2], .int .i64 a0, .int .i64 x31_2] ?_; (with_reducible refine (impl_Signal_comes.calls a1_0 a1_1 a1_2 a0 x31_2 false _ A22.out).mono ?_); rintro e w37 ⟨rfl, hb⟩; refine ⟨_, rfl, ?_⟩; replace HO_10 := Aside0.mk (Kd.R_below (pr HO_10) hb); replace BK228 := nk BK228 hb; replace HB := bs hb; (try clear hb)))
        go_roundg k2
        case measure => have := HJ4.out; have := HK2.out; omega
        case rel => exact ⟨(x10_2), (wrap64 (x31_2 + 1)), (rs), H', ⟨by have := HJ4.out; have := HK2.out; omega⟩, ⟨pr HO_10⟩, ⟨pk BK228⟩, ⟨bw⟩⟩
      ·rw [if_neg c21] at H
       have c21b0 : decide (x31_2 < (wrap64 (a3 + 1))) = false := decide_eq_false c21
       clear c21
       simp only [Option.some.injEq, Prod.mk.injEq] at H
       obtain ⟨rfl, rfl⟩ := H
       go_wp2
       go_ret2
       exact ⟨_, rs, pr HO_10, bw⟩

/-! ### spec_siComes: function 36 -/
def spec_siComes.f (a0 : Int) (a1_0 : Int) (a1_1 : Bool) (a1_2 : Int) (a2 : Int) : Option (Bool) := if a2 = 0 then (some true) else (if a0 > 1 then (if a1_2 = 0 then (none) else (some ((Int.tmod a2 a1_2) == 0))) else (some false))
set_option maxHeartbeats 8000000 in
set_option maxRecDepth 100000 in
theorem spec_siComes.calls (a0 : Int) (a1_0 : Int) (a1_1 : Bool) (a1_2 : Int) (a2 : Int) (r : Bool) (w : World) (h : spec_siComes.f a0 a1_0 a1_1 a1_2 a2 = some r) :
  Calls Try.prog 36 #[.int .i64 a0, .agg #[.int .i64 a1_0, .bool a1_1, .int .i64 a1_2], .int .i64 a2] w fun e w' => e = .returned (.bool r) ∧ Below w.heap.size w w' := by
 have hu25 := Try.underlying25
 have HB := Aside0.mk (Below.refl w.heap.size w)
 unfold spec_siComes.f at h
 have H := h
 clear h
 by_cases c4 : a2 = 0
 ·rw [if_pos c4] at H
  have c4b0 : (a2 == 0) = true := beq_iff_eq.mpr c4
  have c4b1 : (a2 != 0) = false := bne_eq_false_iff_eq.mpr c4
  clear c4
  obtain rfl := Option.some.inj H
  go_enter Try.func36, Try.ntmps36
  go_wp2_with (first | ((with_reducible refine gate_dst (N := 4) rfl ?_); refine bx 4 25 #[.int .i64 a1_0, .bool a1_1, .int .i64 a1_2] ?_; intro gb240 hg w5 hbox hb; have BK240 := hbox; have GW240 := gs hg; have GE240 := gs hg; replace HB := bs hb; clear hb hbox hg))
  go_ret
  exact ⟨rs, bw⟩
 ·rw [if_neg c4] at H
  have c4b0 : (a2 == 0) = false := beq_eq_false_iff_ne.mpr c4
  have c4b1 : (a2 != 0) = true := bne_iff_ne.mpr c4
  by_cases c6 : a0 > 1
  ·rw [if_pos c6] at H
   have c6b0 : decide (1 < a0) = true := decide_eq_true c6
   clear c6
   by_cases c7 : a1_2 = 0
   ·rw [if_pos c7] at H
    exact absurd H (by simp)
   ·rw [if_neg c7] at H
    have c7b0 : (a1_2 == 0) = false := beq_eq_false_iff_ne.mpr c7
    have c7b1 : (a1_2 != 0) = true := bne_iff_ne.mpr c7
    obtain rfl := Option.some.inj H
    go_enter Try.func36, Try.ntmps36
    go_wp2_with (first | ((with_reducible refine gate_dst (N := 4) rfl ?_); refine bx 4 25 #[.int .i64 a1_0, .bool a1_1, .int .i64 a1_2] ?_; intro gb240 hg w8 hbox hb; have BK240 := hbox; have GW240 := gs hg; have GE240 := gs hg; replace HB := bs hb; clear hb hbox hg; have hcz9_0 := bc BK240 0 (.int .i64 a1_0); have hcz9_1 := bc BK240 1 (.bool a1_1); have hcz9_2 := bc BK240 2 (.int .i64 a1_2); have hfz9_0 := blk_frozen BK240.out 0; have hfz9_1 := blk_frozen BK240.out 1; have hfz9_2 := blk_frozen BK240.out 2))
    go_ret
    exact ⟨rs, bw⟩
  ·rw [if_neg c6] at H
   have c6b0 : decide (1 < a0) = false := decide_eq_false c6
   clear c6
   obtain rfl := Option.some.inj H
   go_enter Try.func36, Try.ntmps36
   go_wp2_with (first | ((with_reducible refine gate_dst (N := 4) rfl ?_); refine bx 4 25 #[.int .i64 a1_0, .bool a1_1, .int .i64 a1_2] ?_; intro gb240 hg w10 hbox hb; have BK240 := hbox; have GW240 := gs hg; have GE240 := gs hg; replace HB := bs hb; clear hb hbox hg))
   go_ret
   exact ⟨rs, bw⟩

/-! ### spec_TimesAt: function 12 -/
mutual
def spec_TimesAt.j0 : Nat → Int → Int → Int → Bool → Int → Bool → Int → Option (List Int × Bool)
  | 0, _, _, _, _, _, _, _ => none
  | k + 1, x0, x2, x3, x27, x242000, x242001, x242002 => if x27 = true then (some (([] : List Int), false)) else (spec_TimesAt.l0 k x0 x2 x3 ([] : List Int) 0 x242000 x242001 x242002)
def spec_TimesAt.l0 : Nat → Int → Int → Int → List Int → Int → Int → Bool → Int → Option (List Int × Bool)
  | 0, _, _, _, _, _, _, _, _ => none
  | k + 1, x0, x2, x3, x10, x11, x242000, x242001, x242002 => if x11 ≤ x3 then ((spec_siComes.f x0 x242000 x242001 x242002 x11).bind fun t245 => (if t245 = true then ((spec_siAt.f x0 x242000 x242001 x242002 x11).bind fun t246 => (if t246 = x2 then (if x10.length < 17592186044416 then (spec_TimesAt.l0 k x0 x2 x3 (x10 ++ [x11]) (wrap64 (x11 + 1)) x242000 x242001 x242002) else (none)) else (spec_TimesAt.l0 k x0 x2 x3 x10 (wrap64 (x11 + 1)) x242000 x242001 x242002))) else (spec_TimesAt.l0 k x0 x2 x3 x10 (wrap64 (x11 + 1)) x242000 x242001 x242002))) else (some (x10, true))
end
def spec_TimesAt.f (k : Nat) (a0 : Int) (a1_0 : Int) (a1_1 : Bool) (a1_2 : Int) (a2 : Int) (a3 : Int) : Option (List Int × Bool) := (spec_siSignal.f a0 a1_0 a1_1 a1_2).bind fun t242 => (if t242 = true then ((spec_l1In.f a2 0 (wrap64 (a0 - 1))).bind fun t243 => (if t243 = true then ((spec_l1In.f a3 0 1000).bind fun t244 => (spec_TimesAt.j0 k a0 a2 a3 (!t244) a1_0 a1_1 a1_2)) else (spec_TimesAt.j0 k a0 a2 a3 true a1_0 a1_1 a1_2))) else (spec_TimesAt.j0 k a0 a2 a3 true a1_0 a1_1 a1_2))
theorem spec_TimesAt.mono_l : ∀ k, (∀ y0 y1 y2 y3 y4 y5 y6, LeO (spec_TimesAt.j0 k y0 y1 y2 y3 y4 y5 y6) (spec_TimesAt.j0 (k + 1) y0 y1 y2 y3 y4 y5 y6)) ∧ (∀ y0 y1 y2 y3 y4 y5 y6 y7, LeO (spec_TimesAt.l0 k y0 y1 y2 y3 y4 y5 y6 y7) (spec_TimesAt.l0 (k + 1) y0 y1 y2 y3 y4 y5 y6 y7))
  | 0 => ⟨fun _ _ _ _ _ _ _ r h => by simp [spec_TimesAt.j0] at h, fun _ _ _ _ _ _ _ _ r h => by simp [spec_TimesAt.l0] at h⟩
  | k + 1 => by
    obtain ⟨ih0, ih1⟩ := spec_TimesAt.mono_l k
    refine ⟨?_, ?_⟩
    · intro y0 y1 y2 y3 y4 y5 y6
      unfold spec_TimesAt.j0
      repeat' first
      | (with_reducible exact ih0 _ _ _ _ _ _ _)
      | (with_reducible exact ih1 _ _ _ _ _ _ _ _)
      | (with_reducible exact LeO.refl _)
      | (with_reducible exact LeO.none _)
      | (with_reducible refine LeO.ite ?_ ?_)
      | (with_reducible refine LeO.bind ?_ (fun _ => ?_))
      | exact ih0 _ _ _ _ _ _ _
      | exact ih1 _ _ _ _ _ _ _ _
      | exact LeO.none _
      | refine LeO.ite ?_ ?_
      | refine LeO.bind ?_ (fun _ => ?_)
    · intro y0 y1 y2 y3 y4 y5 y6 y7
      unfold spec_TimesAt.l0
      repeat' first
      | (with_reducible exact ih0 _ _ _ _ _ _ _)
      | (with_reducible exact ih1 _ _ _ _ _ _ _ _)
      | (with_reducible exact LeO.refl _)
      | (with_reducible exact LeO.none _)
      | (with_reducible refine LeO.ite ?_ ?_)
      | (with_reducible refine LeO.bind ?_ (fun _ => ?_))
      | exact ih0 _ _ _ _ _ _ _
      | exact ih1 _ _ _ _ _ _ _ _
      | exact LeO.none _
      | refine LeO.ite ?_ ?_
      | refine LeO.bind ?_ (fun _ => ?_)
theorem spec_TimesAt.mono : ∀ a0 a1 a2 a3 a4 a5 k, LeO (spec_TimesAt.f k a0 a1 a2 a3 a4 a5) (spec_TimesAt.f (k + 1) a0 a1 a2 a3 a4 a5) := by
  intro a0 a1 a2 a3 a4 a5 k
  obtain ⟨ih0, ih1⟩ := spec_TimesAt.mono_l k
  unfold spec_TimesAt.f
  repeat' first
      | (with_reducible exact ih0 _ _ _ _ _ _ _)
      | (with_reducible exact ih1 _ _ _ _ _ _ _ _)
      | (with_reducible exact LeO.refl _)
      | (with_reducible exact LeO.none _)
      | (with_reducible refine LeO.ite ?_ ?_)
      | (with_reducible refine LeO.bind ?_ (fun _ => ?_))
      | exact ih0 _ _ _ _ _ _ _
      | exact ih1 _ _ _ _ _ _ _ _
      | exact LeO.none _
      | refine LeO.ite ?_ ?_
      | refine LeO.bind ?_ (fun _ => ?_)
set_option maxHeartbeats 8000000 in
set_option maxRecDepth 100000 in
theorem spec_TimesAt.calls (k : Nat) (a0 : Int) (a1_0 : Int) (a1_1 : Bool) (a1_2 : Int) (a2 : Int) (a3 : Int) (r1 : List Int) (r2 : Bool) (w : World) (h : spec_TimesAt.f k a0 a1_0 a1_1 a1_2 a2 a3 = some (r1, r2)) :
  Calls Try.prog 12 #[.int .i64 a0, .agg #[.int .i64 a1_0, .bool a1_1, .int .i64 a1_2], .int .i64 a2, .int .i64 a3] w fun e w' => ∃ v0_ : Value, e = .returned (.tuple #[v0_, .bool r2]) ∧ Kd.R (Kd.int .i64) 3 w' w.heap.size (fun _ => True) v0_ r1 ∧ Below w.heap.size w w' := by
 have hu25 := Try.underlying25
 have HB := Aside0.mk (Below.refl w.heap.size w)
 unfold spec_TimesAt.f at h
 have H := h
 clear h
 have HC5 := Aside0.mk H
 clear H
 go_enter Try.func12, Try.ntmps12
 go_upto_region 1 with (first | ((with_reducible refine gate_dst (N := 5) rfl ?_); refine bx 5 25 #[.int .i64 a1_0, .bool a1_1, .int .i64 a1_2] ?_; intro gb241 hg w6 hbox hb; have BK241 := hbox; have GW241 := gs hg; have GE241 := gs hg; replace HB := bs hb; clear hb hbox hg))
 (try simp only [Act.put, List.setIfInBounds_toArray, List.set_cons_zero, List.set_cons_succ])
 go_cut [27] (fun v27 wc => ∃ (kq : Nat) (x27_4 : Bool), v27 = .bool x27_4 ∧ Aside0 (spec_TimesAt.j0 kq a0 a2 a3 x27_4 a1_0 a1_1 a1_2 = some (r1, r2)) ∧ Aside0 (kq ≤ k) ∧ Aside0 (wc.heap[gb241]? = some (.cells #[.int .i64 a1_0, .bool a1_1, .int .i64 a1_2] 25 (0, 0))) ∧ Aside0 (Below w.heap.size w wc))
 case first =>
  have H := HC5.out
  clear HC5
  replace H := Option.bind_eq_some_iff.mp H
  obtain ⟨t242, A70, H⟩ := H
  (try dsimp only at H)
  have A7 := Aside0.mk A70
  clear A70
  by_cases c8 : t242 = true
  ·subst c8
   rw [if_pos rfl] at H
   replace H := Option.bind_eq_some_iff.mp H
   obtain ⟨t243, A90, H⟩ := H
   (try dsimp only at H)
   have A9 := Aside0.mk A90
   clear A90
   by_cases c10 : t243 = true
   ·subst c10
    rw [if_pos rfl] at H
    replace H := Option.bind_eq_some_iff.mp H
    obtain ⟨t244, A110, H⟩ := H
    (try dsimp only at H)
    have A11 := Aside0.mk A110
    clear A110
    have H' := Aside0.mk H
    clear H
    have hcz12_0 := bc BK241 0 (.int .i64 a1_0)
    have hcz12_1 := bc BK241 1 (.bool a1_1)
    have hcz12_2 := bc BK241 2 (.int .i64 a1_2)
    have hfz12_0 := blk_frozen BK241.out 0
    have hfz12_1 := blk_frozen BK241.out 1
    have hfz12_2 := blk_frozen BK241.out 2
    go_wp2_with (first | ((with_reducible refine gate_callee (f := 26) rfl ?_); refine gl (some 14) Try.func26 #[.int .i64 a0, .agg #[.int .i64 a1_0, .bool a1_1, .int .i64 a1_2]] ?_; (with_reducible refine (spec_siSignal.calls a0 a1_0 a1_1 a1_2 true _ A7.out).mono ?_); rintro e w13 ⟨rfl, hb⟩; refine ⟨_, rfl, ?_⟩; replace BK241 := nk BK241 hb; replace HB := bs hb; (try clear hb)) | (go_at_call 35; (with_reducible refine (spec_l1In.calls a2 0 (wrap64 (a0 - 1)) true _ A9.out).mono ?_); rintro e w' ⟨rfl, ⟨nd, rfl⟩⟩) | (go_at_call 35; (with_reducible refine (spec_l1In.calls a3 0 1000 t244 _ A11.out).mono ?_); rintro e w' ⟨rfl, ⟨nd, rfl⟩⟩))
    go_meet
    case rel => exact ⟨_, (!t244), (rs), H', ⟨by first | omega | exact Nat.le_refl _⟩, ⟨pk BK241⟩, ⟨bw⟩⟩
   ·replace c10 := Bool.eq_false_iff.mpr c10
    subst c10
    rw [if_neg (show ¬ (false = true) by decide)] at H
    have H' := Aside0.mk H
    clear H
    have hcz14_0 := bc BK241 0 (.int .i64 a1_0)
    have hcz14_1 := bc BK241 1 (.bool a1_1)
    have hcz14_2 := bc BK241 2 (.int .i64 a1_2)
    have hfz14_0 := blk_frozen BK241.out 0
    have hfz14_1 := blk_frozen BK241.out 1
    have hfz14_2 := blk_frozen BK241.out 2
    go_wp2_with (first | ((with_reducible refine gate_callee (f := 26) rfl ?_); refine gl (some 14) Try.func26 #[.int .i64 a0, .agg #[.int .i64 a1_0, .bool a1_1, .int .i64 a1_2]] ?_; (with_reducible refine (spec_siSignal.calls a0 a1_0 a1_1 a1_2 true _ A7.out).mono ?_); rintro e w15 ⟨rfl, hb⟩; refine ⟨_, rfl, ?_⟩; replace BK241 := nk BK241 hb; replace HB := bs hb; (try clear hb)) | (go_at_call 35; (with_reducible refine (spec_l1In.calls a2 0 (wrap64 (a0 - 1)) false _ A9.out).mono ?_); rintro e w' ⟨rfl, ⟨nd, rfl⟩⟩))
    go_meet
    case rel => exact ⟨_, (true), (rs), H', ⟨by first | omega | exact Nat.le_refl _⟩, ⟨pk BK241⟩, ⟨bw⟩⟩
  ·replace c8 := Bool.eq_false_iff.mpr c8
   subst c8
   rw [if_neg (show ¬ (false = true) by decide)] at H
   have H' := Aside0.mk H
   clear H
   have hcz16_0 := bc BK241 0 (.int .i64 a1_0)
   have hcz16_1 := bc BK241 1 (.bool a1_1)
   have hcz16_2 := bc BK241 2 (.int .i64 a1_2)
   have hfz16_0 := blk_frozen BK241.out 0
   have hfz16_1 := blk_frozen BK241.out 1
   have hfz16_2 := blk_frozen BK241.out 2
   go_wp2_with (first | ((with_reducible refine gate_callee (f := 26) rfl ?_); refine gl (some 14) Try.func26 #[.int .i64 a0, .agg #[.int .i64 a1_0, .bool a1_1, .int .i64 a1_2]] ?_; (with_reducible refine (spec_siSignal.calls a0 a1_0 a1_1 a1_2 false _ A7.out).mono ?_); rintro e w17 ⟨rfl, hb⟩; refine ⟨_, rfl, ?_⟩; replace BK241 := nk BK241 hb; replace HB := bs hb; (try clear hb)))
   go_meet
   case rel => exact ⟨_, (true), (rs), H', ⟨by first | omega | exact Nat.le_refl _⟩, ⟨pk BK241⟩, ⟨bw⟩⟩
 case rest =>
  clear HC5
  try clear c1
  try clear c2
  try clear p2
  try clear p6
  try clear c8
  try clear c10
  try clear c12
  try clear hcz12_0
  try clear hcz12_1
  try clear hcz12_2
  try clear hcz14_0
  try clear hcz14_1
  try clear hcz14_2
  try clear hcz16_0
  try clear hcz16_1
  try clear hcz16_2
  try clear hfz12_0
  try clear hfz12_1
  try clear hfz12_2
  try clear hfz14_0
  try clear hfz14_1
  try clear hfz14_2
  try clear hfz16_0
  try clear hfz16_1
  try clear hfz16_2
  obtain ⟨kq, x27_4, rfl, HA, HJ4, BK241, HB⟩ := hcut
  cases kq with
  | zero => exact absurd HA.out (by simp [spec_TimesAt.j0])
  | succ kj4 =>
   have H := HA.out
   clear HA
   simp only [spec_TimesAt.j0] at H
   by_cases c18 : x27_4 = true
   ·subst c18
    rw [if_pos rfl] at H
    simp only [Option.some.injEq, Prod.mk.injEq] at H
    obtain ⟨rfl, rfl⟩ := H
    go_wp2
    go_ret2
    exact ⟨_, rs, by first | exact Kd.R_nil _ _ _ _ _ | exact Kd.N_nil _ _ _ _ _ | exact Kd.V_nil _ _ _ _ _ | exact Kd.Q_nil _ _ _ _ _ | exact Kd.S_nil _ _ _ _ _, bw⟩
   ·replace c18 := Bool.eq_false_iff.mpr c18
    subst c18
    rw [if_neg (show ¬ (false = true) by decide)] at H
    have H' := Aside0.mk H
    clear H
    go_wp2
    go_loopg [10, 11] kj4 (fun kq v10 v11 w' => ∃ (x10_2 : List Int) (x11_2 : Int), v11 = .int .i64 x11_2 ∧ Aside0 (spec_TimesAt.l0 kq a0 a2 a3 x10_2 x11_2 a1_0 a1_1 a1_2 = some (r1, r2)) ∧ Aside0 (kq ≤ kj4) ∧ Aside0 (Kd.R (Kd.int .i64) 3 w' w.heap.size (fun _ => True) v10 x10_2) ∧ Aside0 (w'.heap[gb241]? = some (.cells #[.int .i64 a1_0, .bool a1_1, .int .i64 a1_2] 25 (0, 0))) ∧ Aside0 (Below w.heap.size w w'))
    case atStart => exact ⟨(([] : List Int)), (0), (rs), H', ⟨Nat.le_refl _⟩, ⟨by first | exact Kd.R_nil _ _ _ _ _ | exact Kd.N_nil _ _ _ _ _ | exact Kd.V_nil _ _ _ _ _ | exact Kd.Q_nil _ _ _ _ _ | exact Kd.S_nil _ _ _ _ _⟩, ⟨pk BK241⟩, ⟨bw⟩⟩
    case round =>
     clear H'
     try clear c1
     try clear c2
     try clear p2
     try clear p6
     try clear c8
     try clear c10
     try clear c12
     try clear c18
     try clear hcz12_0
     try clear hcz12_1
     try clear hcz12_2
     try clear hcz14_0
     try clear hcz14_1
     try clear hcz14_2
     try clear hcz16_0
     try clear hcz16_1
     try clear hcz16_2
     try clear hfz12_0
     try clear hfz12_1
     try clear hfz12_2
     try clear hfz14_0
     try clear hfz14_1
     try clear hfz14_2
     try clear hfz16_0
     try clear hfz16_1
     try clear hfz16_2
     try clear p2
     try clear p6
     obtain ⟨x10_2, x11_2, rfl, HA, HK2, HO_10, BK241, HB⟩ := hrel
     cases gk with
     | zero => exact absurd HA.out (by simp [spec_TimesAt.l0])
     | succ k2 =>
      have H := HA.out
      clear HA
      simp only [spec_TimesAt.l0] at H
      by_cases c19 : x11_2 ≤ a3
      ·rw [if_pos c19] at H
       have c19b0 : decide (x11_2 ≤ a3) = true := decide_eq_true c19
       clear c19
       replace H := Option.bind_eq_some_iff.mp H
       obtain ⟨t245, A200, H⟩ := H
       (try dsimp only at H)
       have A20 := Aside0.mk A200
       clear A200
       by_cases c21 : t245 = true
       ·subst c21
        rw [if_pos rfl] at H
        replace H := Option.bind_eq_some_iff.mp H
        obtain ⟨t246, A220, H⟩ := H
        (try dsimp only at H)
        have A22 := Aside0.mk A220
        clear A220
        by_cases c23 : t246 = a2
        ·rw [if_pos c23] at H
         have c23b0 : (t246 == a2) = true := beq_iff_eq.mpr c23
         have c23b1 : (t246 != a2) = false := bne_eq_false_iff_eq.mpr c23
         clear c23
         by_cases c24 : x10_2.length < 17592186044416
         ·rw [if_pos c24] at H
          have LMc24 := Aside0.mk c24
          clear c24
          obtain ⟨y247, hy247⟩ : ∃ y_ : List Int, y_ = (x10_2 ++ [x11_2]) := ⟨_, rfl⟩
          replace H : (spec_TimesAt.l0 k2 a0 a2 a3 y247 (wrap64 (x11_2 + 1)) a1_0 a1_1 a1_2) = some (r1, r2) := by first | (rw [hy247]; with_reducible exact H) | (have H2_ := (Option.bind_some _ _).symm.trans H; rw [hy247]; with_reducible exact H2_) | (have H2_ := (Option.bind_some _ _).symm.trans H; with_reducible exact H2_) | with_reducible exact H | (rw [hy247]; exact H) | exact H
          have Ny247 := Aside0.mk hy247
          clear hy247
          have H' := Aside0.mk H
          clear H
          have hcz25_0 : wr.cell? ⟨gb241, 0, none⟩ = some (.int .i64 a1_0) := ec BK241
          have hcz25_1 : wr.cell? ⟨gb241, 1, none⟩ = some (.bool a1_1) := ec BK241
          have hcz25_2 : wr.cell? ⟨gb241, 2, none⟩ = some (.int .i64 a1_2) := ec BK241
          have hfz25_0 := blk_frozen BK241.out 0
          have hfz25_1 := blk_frozen BK241.out 1
          have hfz25_2 := blk_frozen BK241.out 2
          go_wp2_with (first | ((with_reducible refine gate_callee (f := 36) rfl ?_); refine gl (some 36) Try.func36 #[.int .i64 a0, .agg #[.int .i64 a1_0, .bool a1_1, .int .i64 a1_2], .int .i64 x11_2] ?_; (with_reducible refine (spec_siComes.calls a0 a1_0 a1_1 a1_2 x11_2 true _ A20.out).mono ?_); rintro e w26 ⟨rfl, hb⟩; refine ⟨_, rfl, ?_⟩; replace HO_10 := Aside0.mk (Kd.R_below (pr HO_10) hb); replace BK241 := nk BK241 hb; replace HB := bs hb; (try clear hb); have hcz27_0 := bc BK241 0 (.int .i64 a1_0); have hcz27_1 := bc BK241 1 (.bool a1_1); have hcz27_2 := bc BK241 2 (.int .i64 a1_2); have hfz27_0 := blk_frozen BK241.out 0; have hfz27_1 := blk_frozen BK241.out 1; have hfz27_2 := blk_frozen BK241.out 2) | (go_at_call 28; (with_reducible refine (spec_siAt.calls a0 a1_0 a1_1 a1_2 x11_2 t246 _ A22.out).mono ?_); rintro e w28 ⟨rfl, hb⟩; replace HO_10 := Aside0.mk (Kd.R_below (pr HO_10) hb); replace BK241 := nk BK241 hb; replace HB := bs hb; (try clear hb)) | ((with_reducible refine gate_builtin (b := .append) (xs := #[.tmp 45, .tmp 47]) rfl ?_); at_builtin; refine Kd.R_append (Kd.int .i64) (w0 := w) w.heap.size rfl (.tmp 45) (.tmp 47) 33 3 (.int .i64 0) 8 rfl Try.underlying33 info3 rfl (by decide) (by omega) u10 x10_2 x11_2 [.int .i64 x11_2] (fun _ => True) (fun _ => False) rfl rfl ?aP (fun _ hk => hk.elim) ?aF ?aO ?aB ?aS ?aL ?_; (case aP => exact rfl); (case aB => exact bw); (case aF => exact (fun _ _ => trivial)); (case aO => exact (pr HO_10)); (case aS => exact (below_size bw)); (case aL => have := LMc24.out; omega); intro v248 w29 ho hb hg hat; rw [← Ny247.out] at ho; have n0_ := Aside0.mk (blk_grown (pk BK241) hg (Kd.R_ne HO_10.out BK241.out (by decide))); have n1_ := Aside0.mk (hb); have n2_ := Aside0.mk (ho); clear BK241; clear HB; clear HO_10; have BK241 := n0_; have HB := n1_; have HO249 := n2_; clear n0_ n1_ n2_; clear ho hb hg hat))
          go_roundg k2
          case measure => have := HJ4.out; have := HK2.out; omega
          case rel => exact ⟨(y247), (wrap64 (x11_2 + 1)), (rs), H', ⟨by have := HJ4.out; have := HK2.out; omega⟩, ⟨pr HO249⟩, ⟨pk BK241⟩, ⟨bw⟩⟩
         ·rw [if_neg c24] at H
          exact absurd H (by simp)
        ·rw [if_neg c23] at H
         have c23b0 : (t246 == a2) = false := beq_eq_false_iff_ne.mpr c23
         have c23b1 : (t246 != a2) = true := bne_iff_ne.mpr c23
         have H' := Aside0.mk H
         clear H
         have hcz30_0 : wr.cell? ⟨gb241, 0, none⟩ = some (.int .i64 a1_0) := ec BK241
         have hcz30_1 : wr.cell? ⟨gb241, 1, none⟩ = some (.bool a1_1) := ec BK241
         have hcz30_2 : wr.cell? ⟨gb241, 2, none⟩ = some (.int .i64 a1_2) := ec BK241
         have hfz30_0 := blk_frozen BK241.out 0
         have hfz30_1 := blk_frozen BK241.out 1
         have hfz30_2 := blk_frozen BK241.out 2
         go_wp2_with (first | ((with_reducible refine gate_callee (f := 36) rfl ?_); refine gl (some 36) Try.func36 #[.int .i64 a0, .agg #[.int .i64 a1_0, .bool a1_1, .int .i64 a1_2], .int .i64 x11_2] ?_; (with_reducible refine (spec_siComes.calls a0 a1_0 a1_1 a1_2 x11_2 true _ A20.out).mono ?_); rintro e w31 ⟨rfl, hb⟩; refine ⟨_, rfl, ?_⟩; replace HO_10 := Aside0.mk (Kd.R_below (pr HO_10) hb); replace BK241 := nk BK241 hb; replace HB := bs hb; (try clear hb); have hcz32_0 := bc BK241 0 (.int .i64 a1_0); have hcz32_1 := bc BK241 1 (.bool a1_1); have hcz32_2 := bc BK241 2 (.int .i64 a1_2); have hfz32_0 := blk_frozen BK241.out 0; have hfz32_1 := blk_frozen BK241.out 1; have hfz32_2 := blk_frozen BK241.out 2) | (go_at_call 28; (with_reducible refine (spec_siAt.calls a0 a1_0 a1_1 a1_2 x11_2 t246 _ A22.out).mono ?_); rintro e w33 ⟨rfl, hb⟩; replace HO_10 := Aside0.mk (Kd.R_below (pr HO_10) hb); replace BK241 := nk BK241 hb; replace HB := bs hb; (try clear hb)))
         go_roundg k2
         case measure => have := HJ4.out; have := HK2.out; omega
         case rel => exact ⟨(x10_2), (wrap64 (x11_2 + 1)), (rs), H', ⟨by have := HJ4.out; have := HK2.out; omega⟩, ⟨pr HO_10⟩, ⟨pk BK241⟩, ⟨bw⟩⟩
       ·replace c21 := Bool.eq_false_iff.mpr c21
        subst c21
        rw [if_neg (show ¬ (false = true) by decide)] at H
        have H' := Aside0.mk H
        clear H
        have hcz34_0 : wr.cell? ⟨gb241, 0, none⟩ = some (.int .i64 a1_0) := ec BK241
        have hcz34_1 : wr.cell? ⟨gb241, 1, none⟩ = some (.bool a1_1) := ec BK241
        have hcz34_2 : wr.cell? ⟨gb241, 2, none⟩ = some (.int .i64 a1_2) := ec BK241
        have hfz34_0 := blk_frozen BK241.out 0
        have hfz34_1 := blk_frozen BK241.out 1
        have hfz34_2 := blk_frozen BK241.out 2
        go_wp2_with (first | ((with_reducible refine gate_callee (f := 36) rfl ?_); refine gl (some 36) Try.func36 #[.int .i64 a0, .agg #[.int .i64 a1_0, .bool a1_1, .int .i64 a1_2], .int .i64 x11_2] ?_; (with_reducible refine (spec_siComes.calls a0 a1_0 a1_1 a1_2 x11_2 false _ A20.out).mono ?_); rintro e w35 ⟨rfl, hb⟩; refine ⟨_, rfl, ?_⟩; replace HO_10 := Aside0.mk (Kd.R_below (pr HO_10) hb); replace BK241 := nk BK241 hb; replace HB := bs hb; (try clear hb)))
        go_roundg k2
        case measure => have := HJ4.out; have := HK2.out; omega
        case rel => exact ⟨(x10_2), (wrap64 (x11_2 + 1)), (rs), H', ⟨by have := HJ4.out; have := HK2.out; omega⟩, ⟨pr HO_10⟩, ⟨pk BK241⟩, ⟨bw⟩⟩
      ·rw [if_neg c19] at H
       have c19b0 : decide (x11_2 ≤ a3) = false := decide_eq_false c19
       clear c19
       simp only [Option.some.injEq, Prod.mk.injEq] at H
       obtain ⟨rfl, rfl⟩ := H
       go_wp2
       go_ret2
       exact ⟨_, rs, pr HO_10, bw⟩

end Go.Proofs.Ytlhhbkdeginhoaa.PFnSignalsGo
