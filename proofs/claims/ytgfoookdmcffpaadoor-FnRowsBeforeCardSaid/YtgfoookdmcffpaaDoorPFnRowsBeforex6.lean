-- Laid by xprint, a program of this session that runs over the kit's print.
import Derived.Test.YtgfoookdmcffpaaDoorPFnRowsBeforex0
import Derived.Test.YtgfoookdmcffpaaDoorPFnRowsBeforex1
import Derived.Test.YtgfoookdmcffpaaDoorPFnRowsBeforex2
import Derived.Test.YtgfoookdmcffpaaDoorPFnRowsBeforex3
import Derived.Test.YtgfoookdmcffpaaDoorPFnRowsBeforex4
import Derived.Test.YtgfoookdmcffpaaDoorPFnRowsBeforex5
namespace Go.Proofs.YtgfoookdmcffpaaDoor.PFnRowsBefore
open Go.RowKit Go.Proofs.YtgfoookdmcffpaaDoorW.PrintWords Go.Proofs.YtgfoookdmcffpaaDoorW.PrintLast Go.Proofs.YtgfoookdmcffpaaDoorW.PrintMore Go.Proofs.YtgfoookdmcffpaaDoor.Sq
attribute [local go_sem] max2_int min2_int max_two min_two max_three min_three max_four min_four   -- for this text's walks alone
set_option linter.unusedVariables false
set_option linter.unusedSimpArgs false

/-! ### spec_SumOfTicks: function 20 -/
def spec_SumOfTicks.l0 : Nat → Int → List Int → Int → Int → Option (Int × Bool)
  | 0, _, _, _, _ => none
  | k + 1, x4, x11, x12, x13 => if x13 < x12 then (if 0 ≤ x13 then (if x13 < (x11.length : Int) then (spec_SumOfTicks.l0 k (wrap64 (x4 + (wrap64 (x13 * (rd x11 x13))))) x11 x12 (wrap64 (x13 + 1))) else (none)) else (none)) else (some (x4, true))
def spec_SumOfTicks.f (k : Nat) (a0 : Int) : Option (Int × Bool) := (spec_rwFew.f a0).bind fun t276 => (if t276 = true then ((spec_rwCounts.f k a0).bind fun t277 => (spec_SumOfTicks.l0 k 0 t277 (t277.length : Int) 0)) else (some (0, false)))
theorem spec_SumOfTicks.mono_l : ∀ k, (∀ y0 y1 y2 y3, LeO (spec_SumOfTicks.l0 k y0 y1 y2 y3) (spec_SumOfTicks.l0 (k + 1) y0 y1 y2 y3))
  | 0 => fun _ _ _ _ r h => by simp [spec_SumOfTicks.l0] at h
  | k + 1 => by
    have ih0 := spec_SumOfTicks.mono_l k
    · intro y0 y1 y2 y3
      unfold spec_SumOfTicks.l0
      repeat' first
      | (with_reducible exact ih0 _ _ _ _)
      | (with_reducible exact spec_rwCounts.mono _ _)
      | (with_reducible exact LeO.refl _)
      | (with_reducible exact LeO.none _)
      | (with_reducible refine LeO.ite ?_ ?_)
      | (with_reducible refine LeO.bind ?_ (fun _ => ?_))
      | exact ih0 _ _ _ _
      | exact spec_rwCounts.mono _ _
      | exact LeO.none _
      | refine LeO.ite ?_ ?_
      | refine LeO.bind ?_ (fun _ => ?_)
theorem spec_SumOfTicks.mono : ∀ a0 k, LeO (spec_SumOfTicks.f k a0) (spec_SumOfTicks.f (k + 1) a0) := by
  intro a0 k
  have ih0 := spec_SumOfTicks.mono_l k
  unfold spec_SumOfTicks.f
  repeat' first
      | (with_reducible exact ih0 _ _ _ _)
      | (with_reducible exact spec_rwCounts.mono _ _)
      | (with_reducible exact LeO.refl _)
      | (with_reducible exact LeO.none _)
      | (with_reducible refine LeO.ite ?_ ?_)
      | (with_reducible refine LeO.bind ?_ (fun _ => ?_))
      | exact ih0 _ _ _ _
      | exact spec_rwCounts.mono _ _
      | exact LeO.none _
      | refine LeO.ite ?_ ?_
      | refine LeO.bind ?_ (fun _ => ?_)
set_option maxHeartbeats 8000000 in
set_option maxRecDepth 100000 in
theorem spec_SumOfTicks.calls (k : Nat) (a0 : Int) (r1 : Int) (r2 : Bool) (w : World) (h : spec_SumOfTicks.f k a0 = some (r1, r2)) :
  Calls Tryd.prog 20 #[.int .i64 a0] w fun e w' => e = .returned (.tuple #[.int .i64 r1, .bool r2]) ∧ Below w.heap.size w w' := by
 have HB := Aside0.mk (Below.refl w.heap.size w)
 unfold spec_SumOfTicks.f at h
 have H := h
 clear h
 replace H := Option.bind_eq_some_iff.mp H
 obtain ⟨t276, A20, H⟩ := H
 (try dsimp only at H)
 have A2 := Aside0.mk A20
 clear A20
 by_cases c3 : t276 = true
 ·subst c3
  rw [if_pos rfl] at H
  replace H := Option.bind_eq_some_iff.mp H
  obtain ⟨t277, A40, H⟩ := H
  (try dsimp only at H)
  have A4 := Aside0.mk A40
  clear A40
  have H' := Aside0.mk H
  clear H
  go_enter Tryd.func20, Tryd.ntmps20
  go_wp2_with (first | ((with_reducible refine gate_callee (f := 37) rfl ?_); refine gl (some 8) Tryd.func37 #[.int .i64 a0] ?_; (with_reducible refine (spec_rwFew.calls a0 true _ A2.out).mono ?_); rintro e w' ⟨rfl, ⟨nd, rfl⟩⟩; refine ⟨_, rfl, ?_⟩) | ((with_reducible refine gate_callee (f := 43) rfl ?_); refine gl (some 11) Tryd.func43 #[.int .i64 a0] ?_; (with_reducible refine (spec_rwCounts.calls k a0 t277 _ A4.out).mono ?_); rintro e w5 ⟨v278, rfl, ho0, hb⟩; refine ⟨_, rfl, ?_⟩; have HO279 := Aside0.mk (Kd.R_lower ho0 (below_size bw)); replace HB := bs hb; (try clear hb); (try clear ho0); obtain ⟨Ao6, co6, eo6⟩ := Kd.R_slice HO279.out; subst eo6))
  go_loopg [4, 13] k (fun kq v4 v13 w' => ∃ (x4_1 : Int) (x13_1 : Int), v4 = .int .i64 x4_1 ∧ v13 = .int .i64 x13_1 ∧ Aside0 (spec_SumOfTicks.l0 kq x4_1 t277 (t277.length : Int) x13_1 = some (r1, r2)) ∧ Aside0 (kq ≤ k) ∧ Aside0 (Kd.R (Kd.int .i64) 3 w' w.heap.size (fun _ => True) (.slice Ao6 t277.length co6) t277) ∧ Aside0 (Below w.heap.size w w'))
  case atStart => exact ⟨(0), (0), (rs), (rs), H', ⟨Nat.le_refl _⟩, ⟨pr HO279⟩, ⟨bw⟩⟩
  case round =>
   clear H'
   try clear c2
   try clear p2
   try clear c3
   try clear c4
   obtain ⟨x4_1, x13_1, rfl, rfl, HA, HK1, HO_11, HB⟩ := hrel
   cases gk with
   | zero => exact absurd HA.out (by simp [spec_SumOfTicks.l0])
   | succ k1 =>
    have H := HA.out
    clear HA
    simp only [spec_SumOfTicks.l0] at H
    by_cases c7 : x13_1 < (t277.length : Int)
    ·rw [if_pos c7] at H
     have c7b0 : decide (x13_1 < (t277.length : Int)) = true := decide_eq_true c7
     clear c7
     by_cases c8 : 0 ≤ x13_1
     ·rw [if_pos c8] at H
      have c8b0 : decide (0 ≤ x13_1) = true := decide_eq_true c8
      clear c8
      by_cases c9 : x13_1 < (t277.length : Int)
      ·rw [if_pos c9] at H
       have c9b0 : decide (x13_1 < (t277.length : Int)) = true := decide_eq_true c9
       clear c9
       have H' := Aside0.mk H
       clear H
       have p280 : 0 ≤ (x13_1 : Int) := of_decide_eq_true (by first | (with_reducible assumption) | assumption)
       have q280 : x13_1 < (t277.length : Int) := of_decide_eq_true (by first | (with_reducible assumption) | assumption)
       obtain ⟨ad280, e280, hx280_0⟩ := Kd.at_int (Kd.R_reads' HO_11.out).2.2 x13_1 p280 q280
       cases e280
       replace p280 := eq_true p280
       replace q280 := eq_true q280
       go_wp2
       go_roundg k1
       case measure => have := HK1.out; omega
       case rel => exact ⟨(wrap64 (x4_1 + (wrap64 (x13_1 * (rd t277 x13_1))))), (wrap64 (x13_1 + 1)), (rs), (rs), H', ⟨by have := HK1.out; omega⟩, ⟨pr HO_11⟩, ⟨bw⟩⟩
      ·rw [if_neg c9] at H
       exact absurd H (by simp)
     ·rw [if_neg c8] at H
      exact absurd H (by simp)
    ·rw [if_neg c7] at H
     have c7b0 : decide (x13_1 < (t277.length : Int)) = false := decide_eq_false c7
     clear c7
     simp only [Option.some.injEq, Prod.mk.injEq] at H
     obtain ⟨rfl, rfl⟩ := H
     go_wp2
     go_ret2
     exact ⟨rs, bw⟩
 ·replace c3 := Bool.eq_false_iff.mpr c3
  subst c3
  rw [if_neg (show ¬ (false = true) by decide)] at H
  simp only [Option.some.injEq, Prod.mk.injEq] at H
  obtain ⟨rfl, rfl⟩ := H
  go_enter Tryd.func20, Tryd.ntmps20
  go_wp2_with (first | ((with_reducible refine gate_callee (f := 37) rfl ?_); refine gl (some 8) Tryd.func37 #[.int .i64 a0] ?_; (with_reducible refine (spec_rwFew.calls a0 false _ A2.out).mono ?_); rintro e w' ⟨rfl, ⟨nd, rfl⟩⟩; refine ⟨_, rfl, ?_⟩))
  go_ret2
  exact ⟨rs, bw⟩

/-! ### spec_DrawCountByTicks: function 21 -/
def spec_DrawCountByTicks.f (l0 : List Int) : Option (Int × Int) := (spec_l1Cur_soldiers.f l0 0 0).bind fun bt282 => ((spec_l1Cur_among.f l0 bt282.2.1 bt282.2.2 (([0, 1, 2, 3, 4, 5, 8, 1000, 1001, (-1)] : List Int))).bind fun bt288 => (some (bt282.1, bt288.1)))
set_option maxHeartbeats 8000000 in
set_option maxRecDepth 100000 in
theorem spec_DrawCountByTicks.calls (A0 : Option Addr) (c0 : Nat) (l0 : List Int) (r1 : Int) (r2 : Int) (w : World) (hr0 : Kd.C (Kd.int .u8) w A0 l0.length l0) (hc0 : l0.length ≤ c0) (h : spec_DrawCountByTicks.f l0 = some (r1, r2)) :
  Calls Tryd.prog 21 #[.slice A0 l0.length c0] w fun e w' => e = .returned (.tuple #[.int .i64 r1, .int .i64 r2]) ∧ Below w.heap.size w w' := by
 have hu45 := Tryd.underlying45
 have HR0 := Aside0.mk hr0
 have HC0 := Aside0.mk hc0
 clear hr0 hc0
 have HB := Aside0.mk (Below.refl w.heap.size w)
 unfold spec_DrawCountByTicks.f at h
 have H := h
 clear h
 replace H := Option.bind_eq_some_iff.mp H
 obtain ⟨⟨t282, t283, t284⟩, A20, H⟩ := H
 (try dsimp only at H)
 have A2 := Aside0.mk A20
 clear A20
 obtain ⟨y285, hy285⟩ : ∃ y_ : List Int, y_ = (([0, 1, 2, 3, 4, 5, 8, 1000, 1001, (-1)] : List Int)) := ⟨_, rfl⟩
 replace H : ((spec_l1Cur_among.f l0 t283 t284 y285).bind fun bt288 => (some (t282, bt288.1))) = some (r1, r2) := by first | (rw [hy285]; with_reducible exact H) | (have H2_ := (Option.bind_some _ _).symm.trans H; rw [hy285]; with_reducible exact H2_) | (have H2_ := (Option.bind_some _ _).symm.trans H; with_reducible exact H2_) | with_reducible exact H | (rw [hy285]; exact H) | exact H
 have Ny285 := Aside0.mk hy285
 clear hy285
 replace H := Option.bind_eq_some_iff.mp H
 obtain ⟨⟨t288, t289, t290⟩, A30, H⟩ := H
 (try dsimp only at H)
 have A3 := Aside0.mk A30
 clear A30
 simp only [Option.some.injEq, Prod.mk.injEq] at H
 obtain ⟨rfl, rfl⟩ := H
 go_enter Tryd.func21, Tryd.ntmps21
 go_wp2_with (first | ((with_reducible refine gate_dst (N := 7) rfl ?_); refine box_event ?hg (N := 7) ?hd (cs := #[.slice A0 l0.length c0, .int .i64 0, .int .u64 0]) (t := 45) ?hr ?_; (case hd => rfl); (case hg => rfl); (case hr => first | (go_simp; done) | (go_simp; rfl)); intro gb281 hg w4 hbox hb; have GW281 := gs hg; have GE281 := gs hg; have HI281 := Aside0.mk ((show IsS45 w _ gb281 l0 0 0 from ⟨_, _, hbox, (by rw [hg]; exact (below_size bw)), HR0.out⟩)); replace HB := bs hb; clear hb hbox hg) | ((with_reducible refine gate_callee (f := 40) rfl ?_); refine gl (some 9) Tryd.func40 #[.pointer (some ⟨gb281, 0, none⟩)] ?_; (with_reducible refine (spec_l1Cur_soldiers.calls gb281 l0 0 0 t282 t283 t284 w _ ?side1 ?side2 A2.out).mono ?_); (case side1 => repeat (first | (with_reducible first | exact HI281.out | apply IsS45.alloc | apply IsS45.drewN | apply IsS45.drew | apply IsS45.set_1 | apply IsS45.set_2) | exact HI281.out)); (case side2 => repeat (first | (with_reducible first | exact HB.out | apply below_alloc | apply pw_below_drewN | apply below_drew1 | refine below_set ?_ (IsS45.ge HI281.out)) | exact HB.out)); rintro e w5 ⟨rfl, hi, hb, hk⟩; refine ⟨_, rfl, ?_⟩; replace HB := Aside0.mk (hb); replace HI281 := Aside0.mk (hi); (try clear hb)) | ((with_reducible refine gate_dst (N := 11) rfl ?_); refine Kd.R_lit (Kd.int .i64) _ 3 ?hg (N := 11) ?hd (xs := ([0, 1, 2, 3, 4, 5, 8, 1000, 1001, (-1)] : List Int)) (inner := [.int .i64 0, .int .i64 1, .int .i64 2, .int .i64 3, .int .i64 4, .int .i64 5, .int .i64 8, .int .i64 1000, .int .i64 1001, .int .i64 (-1)]) (ok := fun _ => True) (okp := fun _ => True) ?hr ?hp (fun _ hk => hk) trivial (Below.refl _ _) (Nat.le_refl _) (by simp) ?_; (case hd => rfl); (case hg => rfl); (case hr => first | (go_simp; done) | (go_simp; rfl)); (case hp => exact (Reps.one (show Kd.M (Kd.int .i64) _ _ _ 0 [.int .i64 0] from rfl) (Reps.one (show Kd.M (Kd.int .i64) _ _ _ 1 [.int .i64 1] from rfl) (Reps.one (show Kd.M (Kd.int .i64) _ _ _ 2 [.int .i64 2] from rfl) (Reps.one (show Kd.M (Kd.int .i64) _ _ _ 3 [.int .i64 3] from rfl) (Reps.one (show Kd.M (Kd.int .i64) _ _ _ 4 [.int .i64 4] from rfl) (Reps.one (show Kd.M (Kd.int .i64) _ _ _ 5 [.int .i64 5] from rfl) (Reps.one (show Kd.M (Kd.int .i64) _ _ _ 8 [.int .i64 8] from rfl) (Reps.one (show Kd.M (Kd.int .i64) _ _ _ 1000 [.int .i64 1000] from rfl) (Reps.one (show Kd.M (Kd.int .i64) _ _ _ 1001 [.int .i64 1001] from rfl) (Reps.one (show Kd.M (Kd.int .i64) _ _ _ (-1) [.int .i64 (-1)] from rfl) (Reps.none _ _)))))))))))); intro v286 w6 ho7 hb hg_ hnew_; clear hg_ hnew_; (first | rw [← Ny285.out] at ho7 | (simp only [Int.reduceToNat] at ho7; rw [← Ny285.out] at ho7)); have HO287 := Aside0.mk (Kd.R_lower ho7 (below_size (by repeat (first | (with_reducible first | exact HB.out | apply below_alloc | apply pw_below_drewN | apply below_drew1 | refine below_set ?_ (IsS45.ge HI281.out)) | exact HB.out)))); replace HB := Aside0.mk (below_step (by repeat (first | (with_reducible first | exact HB.out | apply below_alloc | apply pw_below_drewN | apply below_drew1 | refine below_set ?_ (IsS45.ge HI281.out)) | exact HB.out)) hb); replace HI281 := Aside0.mk (IsS45.below (by repeat (first | (with_reducible first | exact HI281.out | apply IsS45.alloc | apply IsS45.drewN | apply IsS45.drew | apply IsS45.set_1 | apply IsS45.set_2) | exact HI281.out)) hb); clear hb ho7; obtain ⟨Ao8, co8, eo8⟩ := Kd.R_slice HO287.out; subst eo8) | ((with_reducible refine gate_callee (f := 47) rfl ?_); refine gl (some 12) Tryd.func47 #[.pointer (some ⟨gb281, 0, none⟩), .slice Ao8 y285.length co8] ?_; (with_reducible refine (spec_l1Cur_among.calls gb281 l0 t283 t284 _ _ y285 t288 t289 t290 w _ ?side1 ?side2 ?side3 ?side4 ?side5 A3.out).mono ?_); (case side1 => repeat (first | (with_reducible first | exact HI281.out | apply IsS45.alloc | apply IsS45.drewN | apply IsS45.drew | apply IsS45.set_1 | apply IsS45.set_2) | exact HI281.out)); (case side2 => repeat (first | (with_reducible first | exact HB.out | apply below_alloc | apply pw_below_drewN | apply below_drew1 | refine below_set ?_ (IsS45.ge HI281.out)) | exact HB.out)); (case side3 => repeat (first | exact (Kd.R_reads' HO287.out).2.2 | (with_reducible refine Kd.C_alloc ?_ _) | (with_reducible refine Kd.C_drewN ?_ _) | (with_reducible refine Kd.C_drew ?_))); (case side4 => exact (Kd.R_reads' HO287.out).2.1); (case side5 => exact far_slice (IsS45.own_ne HI281.out HO287.out (by decide))); rintro e w9 ⟨rfl, hi, hb, hk⟩; refine ⟨_, rfl, ?_⟩; replace HO287 := Aside0.mk (Kd.R_mono (Kd.R_keep (IsS45.apart (show IsS45 w _ gb281 l0 t283 t284 from by repeat (first | (with_reducible first | exact HI281.out | apply IsS45.alloc | apply IsS45.drewN | apply IsS45.drew | apply IsS45.set_1 | apply IsS45.set_2) | exact HI281.out)) (pr HO287) (by decide)) hk (fun _ h => h.2)) (fun _ h => h.1)); replace HB := Aside0.mk (hb); replace HI281 := Aside0.mk (hi); (try clear hb)))
 go_ret2
 exact ⟨rs, by repeat (first | (with_reducible first | exact HB.out | apply below_alloc | apply pw_below_drewN | apply below_drew1 | refine below_set ?_ (IsS45.ge HI281.out)) | exact HB.out)⟩

/-! ### impl_CountByTicks: function 22 -/
mutual
def impl_CountByTicks.j0 : Nat → Int → Int → Bool → Option (Int × Bool)
  | 0, _, _, _ => none
  | k + 1, x0, x1, x16 => if x16 = true then (some (0, false)) else ((impl_byTicks.f k x0).bind fun t293 => (impl_CountByTicks.l0 k x1 0 t293 (t293.length : Int) 0))
def impl_CountByTicks.l0 : Nat → Int → Int → List Int → Int → Int → Option (Int × Bool)
  | 0, _, _, _, _, _ => none
  | k + 1, x1, x6, x18, x19, x20 => if x20 < x19 then (if 0 ≤ x20 then (if x20 < (x18.length : Int) then (if (rd x18 x20) = x1 then (impl_CountByTicks.l0 k x1 (wrap64 (x6 + 1)) x18 x19 (wrap64 (x20 + 1))) else (impl_CountByTicks.l0 k x1 x6 x18 x19 (wrap64 (x20 + 1)))) else (none)) else (none)) else (some (x6, true))
end
def impl_CountByTicks.f (k : Nat) (a0 : Int) (a1 : Int) : Option (Int × Bool) := (impl_isTraced.f a0).bind fun t291 => (if t291 = true then ((impl_in.f a1 0 1000).bind fun t292 => (impl_CountByTicks.j0 k a0 a1 (!t292))) else (impl_CountByTicks.j0 k a0 a1 true))
theorem impl_CountByTicks.mono_l : ∀ k, (∀ y0 y1 y2, LeO (impl_CountByTicks.j0 k y0 y1 y2) (impl_CountByTicks.j0 (k + 1) y0 y1 y2)) ∧ (∀ y0 y1 y2 y3 y4, LeO (impl_CountByTicks.l0 k y0 y1 y2 y3 y4) (impl_CountByTicks.l0 (k + 1) y0 y1 y2 y3 y4))
  | 0 => ⟨fun _ _ _ r h => by simp [impl_CountByTicks.j0] at h, fun _ _ _ _ _ r h => by simp [impl_CountByTicks.l0] at h⟩
  | k + 1 => by
    obtain ⟨ih0, ih1⟩ := impl_CountByTicks.mono_l k
    refine ⟨?_, ?_⟩
    · intro y0 y1 y2
      unfold impl_CountByTicks.j0
      repeat' first
      | (with_reducible exact ih0 _ _ _)
      | (with_reducible exact ih1 _ _ _ _ _)
      | (with_reducible exact impl_byTicks.mono _ _)
      | (with_reducible exact LeO.refl _)
      | (with_reducible exact LeO.none _)
      | (with_reducible refine LeO.ite ?_ ?_)
      | (with_reducible refine LeO.bind ?_ (fun _ => ?_))
      | exact ih0 _ _ _
      | exact ih1 _ _ _ _ _
      | exact impl_byTicks.mono _ _
      | exact LeO.none _
      | refine LeO.ite ?_ ?_
      | refine LeO.bind ?_ (fun _ => ?_)
    · intro y0 y1 y2 y3 y4
      unfold impl_CountByTicks.l0
      repeat' first
      | (with_reducible exact ih0 _ _ _)
      | (with_reducible exact ih1 _ _ _ _ _)
      | (with_reducible exact impl_byTicks.mono _ _)
      | (with_reducible exact LeO.refl _)
      | (with_reducible exact LeO.none _)
      | (with_reducible refine LeO.ite ?_ ?_)
      | (with_reducible refine LeO.bind ?_ (fun _ => ?_))
      | exact ih0 _ _ _
      | exact ih1 _ _ _ _ _
      | exact impl_byTicks.mono _ _
      | exact LeO.none _
      | refine LeO.ite ?_ ?_
      | refine LeO.bind ?_ (fun _ => ?_)
theorem impl_CountByTicks.mono : ∀ a0 a1 k, LeO (impl_CountByTicks.f k a0 a1) (impl_CountByTicks.f (k + 1) a0 a1) := by
  intro a0 a1 k
  obtain ⟨ih0, ih1⟩ := impl_CountByTicks.mono_l k
  unfold impl_CountByTicks.f
  repeat' first
      | (with_reducible exact ih0 _ _ _)
      | (with_reducible exact ih1 _ _ _ _ _)
      | (with_reducible exact impl_byTicks.mono _ _)
      | (with_reducible exact LeO.refl _)
      | (with_reducible exact LeO.none _)
      | (with_reducible refine LeO.ite ?_ ?_)
      | (with_reducible refine LeO.bind ?_ (fun _ => ?_))
      | exact ih0 _ _ _
      | exact ih1 _ _ _ _ _
      | exact impl_byTicks.mono _ _
      | exact LeO.none _
      | refine LeO.ite ?_ ?_
      | refine LeO.bind ?_ (fun _ => ?_)
set_option maxHeartbeats 8000000 in
set_option maxRecDepth 100000 in
theorem impl_CountByTicks.calls (k : Nat) (a0 : Int) (a1 : Int) (r1 : Int) (r2 : Bool) (w : World) (hm : Dr.Tab w) (h : impl_CountByTicks.f k a0 a1 = some (r1, r2)) :
  Calls Tryd.prog 22 #[.int .i64 a0, .int .i64 a1] w fun e w' => e = .returned (.tuple #[.int .i64 r1, .bool r2]) ∧ Below w.heap.size w w' := by
 have HB := Aside0.mk (Below.refl w.heap.size w)
 have HMM := Aside0.mk hm
 clear hm
 unfold impl_CountByTicks.f at h
 have H := h
 clear h
 have HC3 := Aside0.mk H
 clear H
 go_enter Tryd.func22, Tryd.ntmps22
 go_upto_region 1 with (fail)
 go_cut [16] (fun v16 wc => ∃ (kq : Nat) (x16_2 : Bool), v16 = .bool x16_2 ∧ Aside0 (impl_CountByTicks.j0 kq a0 a1 x16_2 = some (r1, r2)) ∧ Aside0 (kq ≤ k) ∧ Aside0 (Below w.heap.size w wc))
 case first =>
  have H := HC3.out
  clear HC3
  replace H := Option.bind_eq_some_iff.mp H
  obtain ⟨t291, A40, H⟩ := H
  (try dsimp only at H)
  have A4 := Aside0.mk A40
  clear A40
  by_cases c5 : t291 = true
  ·subst c5
   rw [if_pos rfl] at H
   replace H := Option.bind_eq_some_iff.mp H
   obtain ⟨t292, A60, H⟩ := H
   (try dsimp only at H)
   have A6 := Aside0.mk A60
   clear A60
   have H' := Aside0.mk H
   clear H
   go_wp2_with (first | ((with_reducible refine gate_callee (f := 33) rfl ?_); refine gl (some 10) Tryd.func33 #[.int .i64 a0] ?_; (with_reducible refine (impl_isTraced.calls a0 true _ A4.out).mono ?_); rintro e w' ⟨rfl, ⟨nd, rfl⟩⟩; refine ⟨_, rfl, ?_⟩) | (go_at_call 48; (with_reducible refine (impl_in.calls a1 0 1000 t292 _ A6.out).mono ?_); rintro e w' ⟨rfl, ⟨nd, rfl⟩⟩))
   go_meet
   case rel => exact ⟨_, (!t292), (rs), H', ⟨by first | omega | exact Nat.le_refl _⟩, ⟨bw⟩⟩
  ·replace c5 := Bool.eq_false_iff.mpr c5
   subst c5
   rw [if_neg (show ¬ (false = true) by decide)] at H
   have H' := Aside0.mk H
   clear H
   go_wp2_with (first | ((with_reducible refine gate_callee (f := 33) rfl ?_); refine gl (some 10) Tryd.func33 #[.int .i64 a0] ?_; (with_reducible refine (impl_isTraced.calls a0 false _ A4.out).mono ?_); rintro e w' ⟨rfl, ⟨nd, rfl⟩⟩; refine ⟨_, rfl, ?_⟩))
   go_meet
   case rel => exact ⟨_, (true), (rs), H', ⟨by first | omega | exact Nat.le_refl _⟩, ⟨bw⟩⟩
 case rest =>
  clear HC3
  try clear c2
  try clear p2
  try clear c3
  try clear c5
  obtain ⟨kq, x16_2, rfl, HA, HJ2, HB⟩ := hcut
  cases kq with
  | zero => exact absurd HA.out (by simp [impl_CountByTicks.j0])
  | succ kj2 =>
   have H := HA.out
   clear HA
   simp only [impl_CountByTicks.j0] at H
   by_cases c7 : x16_2 = true
   ·subst c7
    rw [if_pos rfl] at H
    simp only [Option.some.injEq, Prod.mk.injEq] at H
    obtain ⟨rfl, rfl⟩ := H
    go_wp2
    go_ret2
    exact ⟨rs, bw⟩
   ·replace c7 := Bool.eq_false_iff.mpr c7
    subst c7
    rw [if_neg (show ¬ (false = true) by decide)] at H
    replace H := Option.bind_eq_some_iff.mp H
    obtain ⟨t293, A80, H⟩ := H
    (try dsimp only at H)
    have A8 := Aside0.mk A80
    clear A80
    have H' := Aside0.mk H
    clear H
    go_wp2_with (first | ((with_reducible refine gate_callee (f := 42) rfl ?_); refine gl (some 18) Tryd.func42 #[.int .i64 a0] ?_; (with_reducible refine (impl_byTicks.calls kj2 a0 t293 _ ?side1 A8.out).mono ?_); (case side1 => exact Dr.mm HMM); rintro e w9 ⟨v294, rfl, ho0, hb⟩; refine ⟨_, rfl, ?_⟩; have HO295 := Aside0.mk (Kd.R_lower ho0 (below_size bw)); replace HB := bs hb; (try clear hb); (try clear ho0); obtain ⟨Ao10, co10, eo10⟩ := Kd.R_slice HO295.out; subst eo10))
    go_loopg [6, 20] kj2 (fun kq v6 v20 w' => ∃ (x6_2 : Int) (x20_2 : Int), v6 = .int .i64 x6_2 ∧ v20 = .int .i64 x20_2 ∧ Aside0 (impl_CountByTicks.l0 kq a1 x6_2 t293 (t293.length : Int) x20_2 = some (r1, r2)) ∧ Aside0 (kq ≤ kj2) ∧ Aside0 (Kd.R (Kd.int .i64) 3 w' w.heap.size (fun _ => True) (.slice Ao10 t293.length co10) t293) ∧ Aside0 (Below w.heap.size w w'))
    case atStart => exact ⟨(0), (0), (rs), (rs), H', ⟨Nat.le_refl _⟩, ⟨pr HO295⟩, ⟨bw⟩⟩
    case round =>
     clear H'
     try clear c2
     try clear p2
     try clear c3
     try clear c4
     try clear c5
     try clear c7
     try clear p2
     obtain ⟨x6_2, x20_2, rfl, rfl, HA, HK2, HO_18, HB⟩ := hrel
     cases gk with
     | zero => exact absurd HA.out (by simp [impl_CountByTicks.l0])
     | succ k2 =>
      have H := HA.out
      clear HA
      simp only [impl_CountByTicks.l0] at H
      by_cases c11 : x20_2 < (t293.length : Int)
      ·rw [if_pos c11] at H
       have c11b0 : decide (x20_2 < (t293.length : Int)) = true := decide_eq_true c11
       clear c11
       by_cases c12 : 0 ≤ x20_2
       ·rw [if_pos c12] at H
        have c12b0 : decide (0 ≤ x20_2) = true := decide_eq_true c12
        clear c12
        by_cases c13 : x20_2 < (t293.length : Int)
        ·rw [if_pos c13] at H
         have c13b0 : decide (x20_2 < (t293.length : Int)) = true := decide_eq_true c13
         clear c13
         by_cases c14 : (rd t293 x20_2) = a1
         ·rw [if_pos c14] at H
          have c14b0 : ((rd t293 x20_2) == a1) = true := beq_iff_eq.mpr c14
          have c14b1 : ((rd t293 x20_2) != a1) = false := bne_eq_false_iff_eq.mpr c14
          clear c14
          have H' := Aside0.mk H
          clear H
          have p296 : 0 ≤ (x20_2 : Int) := of_decide_eq_true (by first | (with_reducible assumption) | assumption)
          have q296 : x20_2 < (t293.length : Int) := of_decide_eq_true (by first | (with_reducible assumption) | assumption)
          obtain ⟨ad296, e296, hx296_0⟩ := Kd.at_int (Kd.R_reads' HO_18.out).2.2 x20_2 p296 q296
          cases e296
          replace p296 := eq_true p296
          replace q296 := eq_true q296
          go_wp2
          go_roundg k2
          case measure => have := HJ2.out; have := HK2.out; omega
          case rel => exact ⟨(wrap64 (x6_2 + 1)), (wrap64 (x20_2 + 1)), (rs), (rs), H', ⟨by have := HJ2.out; have := HK2.out; omega⟩, ⟨pr HO_18⟩, ⟨bw⟩⟩
         ·rw [if_neg c14] at H
          have c14b0 : ((rd t293 x20_2) == a1) = false := beq_eq_false_iff_ne.mpr c14
          have c14b1 : ((rd t293 x20_2) != a1) = true := bne_iff_ne.mpr c14
          have H' := Aside0.mk H
          clear H
          have p296 : 0 ≤ (x20_2 : Int) := of_decide_eq_true (by first | (with_reducible assumption) | assumption)
          have q296 : x20_2 < (t293.length : Int) := of_decide_eq_true (by first | (with_reducible assumption) | assumption)
          obtain ⟨ad296, e296, hx296_0⟩ := Kd.at_int (Kd.R_reads' HO_18.out).2.2 x20_2 p296 q296
          cases e296
          replace p296 := eq_true p296
          replace q296 := eq_true q296
          go_wp2
          go_roundg k2
          case measure => have := HJ2.out; have := HK2.out; omega
          case rel => exact ⟨(x6_2), (wrap64 (x20_2 + 1)), (rs), (rs), H', ⟨by have := HJ2.out; have := HK2.out; omega⟩, ⟨pr HO_18⟩, ⟨bw⟩⟩
        ·rw [if_neg c13] at H
         exact absurd H (by simp)
       ·rw [if_neg c12] at H
        exact absurd H (by simp)
      ·rw [if_neg c11] at H
       have c11b0 : decide (x20_2 < (t293.length : Int)) = false := decide_eq_false c11
       clear c11
       simp only [Option.some.injEq, Prod.mk.injEq] at H
       obtain ⟨rfl, rfl⟩ := H
       go_wp2
       go_ret2
       exact ⟨rs, bw⟩

/-! ### spec_CountByTicks: function 23 -/
def spec_CountByTicks.j0 : Nat → Int → Int → Bool → Option (Int × Bool)
  | 0, _, _, _ => none
  | k + 1, x0, x1, x14 => if x14 = true then (some (0, false)) else ((spec_rwCounts.f k x0).bind fun t299 => (if x1 ≥ (t299.length : Int) then (some (0, true)) else (if 0 ≤ x1 then (if x1 < (t299.length : Int) then (some (rd t299 x1, true)) else (none)) else (none))))
def spec_CountByTicks.f (k : Nat) (a0 : Int) (a1 : Int) : Option (Int × Bool) := (spec_rwFew.f a0).bind fun t297 => (if t297 = true then ((spec_l1In.f a1 0 1000).bind fun t298 => (spec_CountByTicks.j0 k a0 a1 (!t298))) else (spec_CountByTicks.j0 k a0 a1 true))
theorem spec_CountByTicks.mono_l : ∀ k, (∀ y0 y1 y2, LeO (spec_CountByTicks.j0 k y0 y1 y2) (spec_CountByTicks.j0 (k + 1) y0 y1 y2))
  | 0 => fun _ _ _ r h => by simp [spec_CountByTicks.j0] at h
  | k + 1 => by
    have ih0 := spec_CountByTicks.mono_l k
    · intro y0 y1 y2
      unfold spec_CountByTicks.j0
      repeat' first
      | (with_reducible exact ih0 _ _ _)
      | (with_reducible exact spec_rwCounts.mono _ _)
      | (with_reducible exact LeO.refl _)
      | (with_reducible exact LeO.none _)
      | (with_reducible refine LeO.ite ?_ ?_)
      | (with_reducible refine LeO.bind ?_ (fun _ => ?_))
      | exact ih0 _ _ _
      | exact spec_rwCounts.mono _ _
      | exact LeO.none _
      | refine LeO.ite ?_ ?_
      | refine LeO.bind ?_ (fun _ => ?_)
theorem spec_CountByTicks.mono : ∀ a0 a1 k, LeO (spec_CountByTicks.f k a0 a1) (spec_CountByTicks.f (k + 1) a0 a1) := by
  intro a0 a1 k
  have ih0 := spec_CountByTicks.mono_l k
  unfold spec_CountByTicks.f
  repeat' first
      | (with_reducible exact ih0 _ _ _)
      | (with_reducible exact spec_rwCounts.mono _ _)
      | (with_reducible exact LeO.refl _)
      | (with_reducible exact LeO.none _)
      | (with_reducible refine LeO.ite ?_ ?_)
      | (with_reducible refine LeO.bind ?_ (fun _ => ?_))
      | exact ih0 _ _ _
      | exact spec_rwCounts.mono _ _
      | exact LeO.none _
      | refine LeO.ite ?_ ?_
      | refine LeO.bind ?_ (fun _ => ?_)
set_option maxHeartbeats 8000000 in
set_option maxRecDepth 100000 in
theorem spec_CountByTicks.calls (k : Nat) (a0 : Int) (a1 : Int) (r1 : Int) (r2 : Bool) (w : World) (h : spec_CountByTicks.f k a0 a1 = some (r1, r2)) :
  Calls Tryd.prog 23 #[.int .i64 a0, .int .i64 a1] w fun e w' => e = .returned (.tuple #[.int .i64 r1, .bool r2]) ∧ Below w.heap.size w w' := by
 have HB := Aside0.mk (Below.refl w.heap.size w)
 unfold spec_CountByTicks.f at h
 have H := h
 clear h
 have HC3 := Aside0.mk H
 clear H
 go_enter Tryd.func23, Tryd.ntmps23
 go_upto_region 1 with (fail)
 go_cut [14] (fun v14 wc => ∃ (kq : Nat) (x14_2 : Bool), v14 = .bool x14_2 ∧ Aside0 (spec_CountByTicks.j0 kq a0 a1 x14_2 = some (r1, r2)) ∧ Aside0 (kq ≤ k) ∧ Aside0 (Below w.heap.size w wc))
 case first =>
  have H := HC3.out
  clear HC3
  replace H := Option.bind_eq_some_iff.mp H
  obtain ⟨t297, A40, H⟩ := H
  (try dsimp only at H)
  have A4 := Aside0.mk A40
  clear A40
  by_cases c5 : t297 = true
  ·subst c5
   rw [if_pos rfl] at H
   replace H := Option.bind_eq_some_iff.mp H
   obtain ⟨t298, A60, H⟩ := H
   (try dsimp only at H)
   have A6 := Aside0.mk A60
   clear A60
   have H' := Aside0.mk H
   clear H
   go_wp2_with (first | ((with_reducible refine gate_callee (f := 37) rfl ?_); refine gl (some 8) Tryd.func37 #[.int .i64 a0] ?_; (with_reducible refine (spec_rwFew.calls a0 true _ A4.out).mono ?_); rintro e w' ⟨rfl, ⟨nd, rfl⟩⟩; refine ⟨_, rfl, ?_⟩) | (go_at_call 49; (with_reducible refine (spec_l1In.calls a1 0 1000 t298 _ A6.out).mono ?_); rintro e w' ⟨rfl, ⟨nd, rfl⟩⟩))
   go_meet
   case rel => exact ⟨_, (!t298), (rs), H', ⟨by first | omega | exact Nat.le_refl _⟩, ⟨bw⟩⟩
  ·replace c5 := Bool.eq_false_iff.mpr c5
   subst c5
   rw [if_neg (show ¬ (false = true) by decide)] at H
   have H' := Aside0.mk H
   clear H
   go_wp2_with (first | ((with_reducible refine gate_callee (f := 37) rfl ?_); refine gl (some 8) Tryd.func37 #[.int .i64 a0] ?_; (with_reducible refine (spec_rwFew.calls a0 false _ A4.out).mono ?_); rintro e w' ⟨rfl, ⟨nd, rfl⟩⟩; refine ⟨_, rfl, ?_⟩))
   go_meet
   case rel => exact ⟨_, (true), (rs), H', ⟨by first | omega | exact Nat.le_refl _⟩, ⟨bw⟩⟩
 case rest =>
  clear HC3
  try clear c2
  try clear p2
  try clear c3
  try clear c5
  obtain ⟨kq, x14_2, rfl, HA, HJ2, HB⟩ := hcut
  cases kq with
  | zero => exact absurd HA.out (by simp [spec_CountByTicks.j0])
  | succ kj2 =>
   have H := HA.out
   clear HA
   simp only [spec_CountByTicks.j0] at H
   by_cases c7 : x14_2 = true
   ·subst c7
    rw [if_pos rfl] at H
    simp only [Option.some.injEq, Prod.mk.injEq] at H
    obtain ⟨rfl, rfl⟩ := H
    go_wp2
    go_ret2
    exact ⟨rs, bw⟩
   ·replace c7 := Bool.eq_false_iff.mpr c7
    subst c7
    rw [if_neg (show ¬ (false = true) by decide)] at H
    replace H := Option.bind_eq_some_iff.mp H
    obtain ⟨t299, A80, H⟩ := H
    (try dsimp only at H)
    have A8 := Aside0.mk A80
    clear A80
    by_cases c9 : a1 ≥ (t299.length : Int)
    ·rw [if_pos c9] at H
     have c9b0 : decide ((t299.length : Int) ≤ a1) = true := decide_eq_true c9
     clear c9
     simp only [Option.some.injEq, Prod.mk.injEq] at H
     obtain ⟨rfl, rfl⟩ := H
     go_wp2_with (first | ((with_reducible refine gate_callee (f := 43) rfl ?_); refine gl (some 16) Tryd.func43 #[.int .i64 a0] ?_; (with_reducible refine (spec_rwCounts.calls kj2 a0 t299 _ A8.out).mono ?_); rintro e w10 ⟨v300, rfl, ho0, hb⟩; refine ⟨_, rfl, ?_⟩; have HO301 := Aside0.mk (Kd.R_lower ho0 (below_size bw)); replace HB := bs hb; (try clear hb); (try clear ho0); obtain ⟨Ao11, co11, eo11⟩ := Kd.R_slice HO301.out; subst eo11))
     go_ret2
     exact ⟨rs, bw⟩
    ·rw [if_neg c9] at H
     have c9b0 : decide ((t299.length : Int) ≤ a1) = false := decide_eq_false c9
     clear c9
     by_cases c12 : 0 ≤ a1
     ·rw [if_pos c12] at H
      have c12b0 : decide (0 ≤ a1) = true := decide_eq_true c12
      clear c12
      by_cases c13 : a1 < (t299.length : Int)
      ·rw [if_pos c13] at H
       have c13b0 : decide (a1 < (t299.length : Int)) = true := decide_eq_true c13
       clear c13
       simp only [Option.some.injEq, Prod.mk.injEq] at H
       obtain ⟨rfl, rfl⟩ := H
       go_wp2_with (first | ((with_reducible refine gate_callee (f := 43) rfl ?_); refine gl (some 16) Tryd.func43 #[.int .i64 a0] ?_; (with_reducible refine (spec_rwCounts.calls kj2 a0 t299 _ A8.out).mono ?_); rintro e w14 ⟨v300, rfl, ho0, hb⟩; refine ⟨_, rfl, ?_⟩; have HO301 := Aside0.mk (Kd.R_lower ho0 (below_size bw)); replace HB := bs hb; (try clear hb); (try clear ho0); obtain ⟨Ao15, co15, eo15⟩ := Kd.R_slice HO301.out; subst eo15; have p302 : 0 ≤ (a1 : Int) := of_decide_eq_true (by first | (with_reducible assumption) | assumption); have q302 : a1 < (t299.length : Int) := of_decide_eq_true (by first | (with_reducible assumption) | assumption); obtain ⟨ad302, e302, hx302_0⟩ := Kd.at_int (Kd.R_reads' HO301.out).2.2 a1 p302 q302; cases e302; replace p302 := eq_true p302; replace q302 := eq_true q302))
       go_ret2
       exact ⟨rs, bw⟩
      ·rw [if_neg c13] at H
       exact absurd H (by simp)
     ·rw [if_neg c12] at H
      exact absurd H (by simp)

/-! ### spec_DrawCountAtRest: function 24 -/
def spec_DrawCountAtRest.f (l0 : List Int) : Option (Int) := (spec_l1Cur_among.f l0 0 0 (([1, 2, 5, 12, 60, 61, 0, (-1)] : List Int))).bind fun bt307 => (some bt307.1)
set_option maxHeartbeats 8000000 in
set_option maxRecDepth 100000 in
theorem spec_DrawCountAtRest.calls (A0 : Option Addr) (c0 : Nat) (l0 : List Int) (r : Int) (w : World) (hr0 : Kd.C (Kd.int .u8) w A0 l0.length l0) (hc0 : l0.length ≤ c0) (h : spec_DrawCountAtRest.f l0 = some r) :
  Calls Tryd.prog 24 #[.slice A0 l0.length c0] w fun e w' => e = .returned (.int .i64 r) ∧ Below w.heap.size w w' := by
 have hu45 := Tryd.underlying45
 have HR0 := Aside0.mk hr0
 have HC0 := Aside0.mk hc0
 clear hr0 hc0
 have HB := Aside0.mk (Below.refl w.heap.size w)
 unfold spec_DrawCountAtRest.f at h
 have H := h
 clear h
 obtain ⟨y304, hy304⟩ : ∃ y_ : List Int, y_ = (([1, 2, 5, 12, 60, 61, 0, (-1)] : List Int)) := ⟨_, rfl⟩
 replace H : ((spec_l1Cur_among.f l0 0 0 y304).bind fun bt307 => (some bt307.1)) = some r := by first | (rw [hy304]; with_reducible exact H) | (have H2_ := (Option.bind_some _ _).symm.trans H; rw [hy304]; with_reducible exact H2_) | (have H2_ := (Option.bind_some _ _).symm.trans H; with_reducible exact H2_) | with_reducible exact H | (rw [hy304]; exact H) | exact H
 have Ny304 := Aside0.mk hy304
 clear hy304
 replace H := Option.bind_eq_some_iff.mp H
 obtain ⟨⟨t307, t308, t309⟩, A20, H⟩ := H
 (try dsimp only at H)
 have A2 := Aside0.mk A20
 clear A20
 obtain rfl := Option.some.inj H
 go_enter Tryd.func24, Tryd.ntmps24
 go_wp2_with (first | ((with_reducible refine gate_dst (N := 6) rfl ?_); refine box_event ?hg (N := 6) ?hd (cs := #[.slice A0 l0.length c0, .int .i64 0, .int .u64 0]) (t := 45) ?hr ?_; (case hd => rfl); (case hg => rfl); (case hr => first | (go_simp; done) | (go_simp; rfl)); intro gb303 hg w3 hbox hb; have GW303 := gs hg; have GE303 := gs hg; have HI303 := Aside0.mk ((show IsS45 w _ gb303 l0 0 0 from ⟨_, _, hbox, (by rw [hg]; exact (below_size bw)), HR0.out⟩)); replace HB := bs hb; clear hb hbox hg) | ((with_reducible refine gate_dst (N := 8) rfl ?_); refine Kd.R_lit (Kd.int .i64) _ 3 ?hg (N := 8) ?hd (xs := ([1, 2, 5, 12, 60, 61, 0, (-1)] : List Int)) (inner := [.int .i64 1, .int .i64 2, .int .i64 5, .int .i64 12, .int .i64 60, .int .i64 61, .int .i64 0, .int .i64 (-1)]) (ok := fun _ => True) (okp := fun _ => True) ?hr ?hp (fun _ hk => hk) trivial (Below.refl _ _) (Nat.le_refl _) (by simp) ?_; (case hd => rfl); (case hg => rfl); (case hr => first | (go_simp; done) | (go_simp; rfl)); (case hp => exact (Reps.one (show Kd.M (Kd.int .i64) _ _ _ 1 [.int .i64 1] from rfl) (Reps.one (show Kd.M (Kd.int .i64) _ _ _ 2 [.int .i64 2] from rfl) (Reps.one (show Kd.M (Kd.int .i64) _ _ _ 5 [.int .i64 5] from rfl) (Reps.one (show Kd.M (Kd.int .i64) _ _ _ 12 [.int .i64 12] from rfl) (Reps.one (show Kd.M (Kd.int .i64) _ _ _ 60 [.int .i64 60] from rfl) (Reps.one (show Kd.M (Kd.int .i64) _ _ _ 61 [.int .i64 61] from rfl) (Reps.one (show Kd.M (Kd.int .i64) _ _ _ 0 [.int .i64 0] from rfl) (Reps.one (show Kd.M (Kd.int .i64) _ _ _ (-1) [.int .i64 (-1)] from rfl) (Reps.none _ _)))))))))); intro v305 w4 ho5 hb hg_ hnew_; clear hg_ hnew_; (first | rw [← Ny304.out] at ho5 | (simp only [Int.reduceToNat] at ho5; rw [← Ny304.out] at ho5)); have HO306 := Aside0.mk (Kd.R_lower ho5 (below_size (by repeat (first | (with_reducible first | exact HB.out | apply below_alloc | apply pw_below_drewN | apply below_drew1 | refine below_set ?_ (IsS45.ge HI303.out)) | exact HB.out)))); replace HB := Aside0.mk (below_step (by repeat (first | (with_reducible first | exact HB.out | apply below_alloc | apply pw_below_drewN | apply below_drew1 | refine below_set ?_ (IsS45.ge HI303.out)) | exact HB.out)) hb); replace HI303 := Aside0.mk (IsS45.below (by repeat (first | (with_reducible first | exact HI303.out | apply IsS45.alloc | apply IsS45.drewN | apply IsS45.drew | apply IsS45.set_1 | apply IsS45.set_2) | exact HI303.out)) hb); clear hb ho5; obtain ⟨Ao6, co6, eo6⟩ := Kd.R_slice HO306.out; subst eo6) | ((with_reducible refine gate_callee (f := 47) rfl ?_); refine gl (some 9) Tryd.func47 #[.pointer (some ⟨gb303, 0, none⟩), .slice Ao6 y304.length co6] ?_; (with_reducible refine (spec_l1Cur_among.calls gb303 l0 0 0 _ _ y304 t307 t308 t309 w _ ?side1 ?side2 ?side3 ?side4 ?side5 A2.out).mono ?_); (case side1 => repeat (first | (with_reducible first | exact HI303.out | apply IsS45.alloc | apply IsS45.drewN | apply IsS45.drew | apply IsS45.set_1 | apply IsS45.set_2) | exact HI303.out)); (case side2 => repeat (first | (with_reducible first | exact HB.out | apply below_alloc | apply pw_below_drewN | apply below_drew1 | refine below_set ?_ (IsS45.ge HI303.out)) | exact HB.out)); (case side3 => repeat (first | exact (Kd.R_reads' HO306.out).2.2 | (with_reducible refine Kd.C_alloc ?_ _) | (with_reducible refine Kd.C_drewN ?_ _) | (with_reducible refine Kd.C_drew ?_))); (case side4 => exact (Kd.R_reads' HO306.out).2.1); (case side5 => exact far_slice (IsS45.own_ne HI303.out HO306.out (by decide))); rintro e w7 ⟨rfl, hi, hb, hk⟩; refine ⟨_, rfl, ?_⟩; replace HO306 := Aside0.mk (Kd.R_mono (Kd.R_keep (IsS45.apart (show IsS45 w _ gb303 l0 0 0 from by repeat (first | (with_reducible first | exact HI303.out | apply IsS45.alloc | apply IsS45.drewN | apply IsS45.drew | apply IsS45.set_1 | apply IsS45.set_2) | exact HI303.out)) (pr HO306) (by decide)) hk (fun _ h => h.2)) (fun _ h => h.1)); replace HB := Aside0.mk (hb); replace HI303 := Aside0.mk (hi); (try clear hb)))
 go_ret
 exact ⟨rs, by repeat (first | (with_reducible first | exact HB.out | apply below_alloc | apply pw_below_drewN | apply below_drew1 | refine below_set ?_ (IsS45.ge HI303.out)) | exact HB.out)⟩

/-! ### impl_CountAtRest: function 25 -/
def impl_CountAtRest.f (a0 : Int) : Option (Int × Bool) := (impl_in.f a0 1 60).bind fun t310 => (if t310 = true then (some (wrap64 (a0 + 1), true)) else (some (0, false)))
set_option maxHeartbeats 8000000 in
set_option maxRecDepth 100000 in
theorem impl_CountAtRest.calls (a0 : Int) (r1 : Int) (r2 : Bool) (w : World) (h : impl_CountAtRest.f a0 = some (r1, r2)) :
  Calls Tryd.prog 25 #[.int .i64 a0] w fun e w' => e = .returned (.tuple #[.int .i64 r1, .bool r2]) ∧ Drawn0 w w' := by
 unfold impl_CountAtRest.f at h
 have H := h
 clear h
 replace H := Option.bind_eq_some_iff.mp H
 obtain ⟨t310, A20, H⟩ := H
 (try dsimp only at H)
 have A2 := Aside0.mk A20
 clear A20
 by_cases c3 : t310 = true
 ·subst c3
  rw [if_pos rfl] at H
  simp only [Option.some.injEq, Prod.mk.injEq] at H
  obtain ⟨rfl, rfl⟩ := H
  go_enter Tryd.func25, Tryd.ntmps25
  go_wp2_with (first | ((with_reducible refine gate_callee (f := 48) rfl ?_); refine gl (some 5) Tryd.func48 #[.int .i64 a0, .int .i64 1, .int .i64 60] ?_; (with_reducible refine (impl_in.calls a0 1 60 true _ A2.out).mono ?_); rintro e w' ⟨rfl, ⟨nd, rfl⟩⟩; refine ⟨_, rfl, ?_⟩))
  go_ret2
  exact ⟨rs, by repeat (first | exact Drawn0.refl _ | apply Drawn0.step)⟩
 ·replace c3 := Bool.eq_false_iff.mpr c3
  subst c3
  rw [if_neg (show ¬ (false = true) by decide)] at H
  simp only [Option.some.injEq, Prod.mk.injEq] at H
  obtain ⟨rfl, rfl⟩ := H
  go_enter Tryd.func25, Tryd.ntmps25
  go_wp2_with (first | ((with_reducible refine gate_callee (f := 48) rfl ?_); refine gl (some 5) Tryd.func48 #[.int .i64 a0, .int .i64 1, .int .i64 60] ?_; (with_reducible refine (impl_in.calls a0 1 60 false _ A2.out).mono ?_); rintro e w' ⟨rfl, ⟨nd, rfl⟩⟩; refine ⟨_, rfl, ?_⟩))
  go_ret2
  exact ⟨rs, by repeat (first | exact Drawn0.refl _ | apply Drawn0.step)⟩

/-! ### spec_CountAtRest: function 26 -/
def spec_CountAtRest.f (a0 : Int) : Option (Int × Bool) := (spec_l1In.f a0 1 60).bind fun t311 => (if t311 = true then (some (wrap64 (a0 + 1), true)) else (some (0, false)))
set_option maxHeartbeats 8000000 in
set_option maxRecDepth 100000 in
theorem spec_CountAtRest.calls (a0 : Int) (r1 : Int) (r2 : Bool) (w : World) (h : spec_CountAtRest.f a0 = some (r1, r2)) :
  Calls Tryd.prog 26 #[.int .i64 a0] w fun e w' => e = .returned (.tuple #[.int .i64 r1, .bool r2]) ∧ Drawn0 w w' := by
 unfold spec_CountAtRest.f at h
 have H := h
 clear h
 replace H := Option.bind_eq_some_iff.mp H
 obtain ⟨t311, A20, H⟩ := H
 (try dsimp only at H)
 have A2 := Aside0.mk A20
 clear A20
 by_cases c3 : t311 = true
 ·subst c3
  rw [if_pos rfl] at H
  simp only [Option.some.injEq, Prod.mk.injEq] at H
  obtain ⟨rfl, rfl⟩ := H
  go_enter Tryd.func26, Tryd.ntmps26
  go_wp2_with (first | ((with_reducible refine gate_callee (f := 49) rfl ?_); refine gl (some 5) Tryd.func49 #[.int .i64 a0, .int .i64 1, .int .i64 60] ?_; (with_reducible refine (spec_l1In.calls a0 1 60 true _ A2.out).mono ?_); rintro e w' ⟨rfl, ⟨nd, rfl⟩⟩; refine ⟨_, rfl, ?_⟩))
  go_ret2
  exact ⟨rs, by repeat (first | exact Drawn0.refl _ | apply Drawn0.step)⟩
 ·replace c3 := Bool.eq_false_iff.mpr c3
  subst c3
  rw [if_neg (show ¬ (false = true) by decide)] at H
  simp only [Option.some.injEq, Prod.mk.injEq] at H
  obtain ⟨rfl, rfl⟩ := H
  go_enter Tryd.func26, Tryd.ntmps26
  go_wp2_with (first | ((with_reducible refine gate_callee (f := 49) rfl ?_); refine gl (some 5) Tryd.func49 #[.int .i64 a0, .int .i64 1, .int .i64 60] ?_; (with_reducible refine (spec_l1In.calls a0 1 60 false _ A2.out).mono ?_); rintro e w' ⟨rfl, ⟨nd, rfl⟩⟩; refine ⟨_, rfl, ?_⟩))
  go_ret2
  exact ⟨rs, by repeat (first | exact Drawn0.refl _ | apply Drawn0.step)⟩

/-! ### impl_TicksToRest: function 27 -/
def impl_TicksToRest.f (k : Nat) (a0 : ByteArray) : Option (Int × Bool) := (impl_isRow.f a0).bind fun t312 => (if t312 = true then ((impl_ticksToRest.f k a0).bind fun t313 => (some (t313, true))) else (some (0, false)))
theorem impl_TicksToRest.mono : ∀ a0 k, LeO (impl_TicksToRest.f k a0) (impl_TicksToRest.f (k + 1) a0) := by
  intro a0 k
  unfold impl_TicksToRest.f
  repeat' first
      | (with_reducible exact impl_ticksToRest.mono _ _)
      | (with_reducible exact LeO.refl _)
      | (with_reducible exact LeO.none _)
      | (with_reducible refine LeO.ite ?_ ?_)
      | (with_reducible refine LeO.bind ?_ (fun _ => ?_))
      | exact impl_ticksToRest.mono _ _
      | exact LeO.none _
      | refine LeO.ite ?_ ?_
      | refine LeO.bind ?_ (fun _ => ?_)
set_option maxHeartbeats 8000000 in
set_option maxRecDepth 100000 in
theorem impl_TicksToRest.calls (k : Nat) (a0 : ByteArray) (r1 : Int) (r2 : Bool) (w : World) (hm : Dr.Tab w) (h : impl_TicksToRest.f k a0 = some (r1, r2)) :
  Calls Tryd.prog 27 #[.string a0] w fun e w' => e = .returned (.tuple #[.int .i64 r1, .bool r2]) ∧ Below w.heap.size w w' := by
 have HB := Aside0.mk (Below.refl w.heap.size w)
 have HMM := Aside0.mk hm
 clear hm
 unfold impl_TicksToRest.f at h
 have H := h
 clear h
 replace H := Option.bind_eq_some_iff.mp H
 obtain ⟨t312, A20, H⟩ := H
 (try dsimp only at H)
 have A2 := Aside0.mk A20
 clear A20
 by_cases c3 : t312 = true
 ·subst c3
  rw [if_pos rfl] at H
  replace H := Option.bind_eq_some_iff.mp H
  obtain ⟨t313, A40, H⟩ := H
  (try dsimp only at H)
  have A4 := Aside0.mk A40
  clear A40
  simp only [Option.some.injEq, Prod.mk.injEq] at H
  obtain ⟨rfl, rfl⟩ := H
  go_enter Tryd.func27, Tryd.ntmps27
  go_wp2_with (first | ((with_reducible refine gate_callee (f := 32) rfl ?_); refine gl (some 5) Tryd.func32 #[.string a0] ?_; (with_reducible refine (impl_isRow.calls a0 true _ A2.out).mono ?_); rintro e w5 ⟨rfl, hb⟩; refine ⟨_, rfl, ?_⟩; replace HB := bs hb; (try clear hb)) | ((with_reducible refine gate_callee (f := 50) rfl ?_); refine gl (some 8) Tryd.func50 #[.string a0] ?_; (with_reducible refine (impl_ticksToRest.calls k a0 t313 _ ?side1 A4.out).mono ?_); (case side1 => exact Dr.mm HMM); rintro e w6 ⟨rfl, hb⟩; refine ⟨_, rfl, ?_⟩; replace HB := bs hb; (try clear hb)))
  go_ret2
  exact ⟨rs, bw⟩
 ·replace c3 := Bool.eq_false_iff.mpr c3
  subst c3
  rw [if_neg (show ¬ (false = true) by decide)] at H
  simp only [Option.some.injEq, Prod.mk.injEq] at H
  obtain ⟨rfl, rfl⟩ := H
  go_enter Tryd.func27, Tryd.ntmps27
  go_wp2_with (first | ((with_reducible refine gate_callee (f := 32) rfl ?_); refine gl (some 5) Tryd.func32 #[.string a0] ?_; (with_reducible refine (impl_isRow.calls a0 false _ A2.out).mono ?_); rintro e w7 ⟨rfl, hb⟩; refine ⟨_, rfl, ?_⟩; replace HB := bs hb; (try clear hb)))
  go_ret2
  exact ⟨rs, bw⟩

end Go.Proofs.YtgfoookdmcffpaaDoor.PFnRowsBefore
