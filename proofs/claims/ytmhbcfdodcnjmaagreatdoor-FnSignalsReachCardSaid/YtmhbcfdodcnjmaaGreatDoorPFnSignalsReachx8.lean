-- Laid by xprint, a program of this session that runs over the kit's print.
import Derived.Test.YtmhbcfdodcnjmaaGreatDoorPFnSignalsReachx0
import Derived.Test.YtmhbcfdodcnjmaaGreatDoorPFnSignalsReachx2
import Derived.Test.YtmhbcfdodcnjmaaGreatDoorPFnSignalsReachx3
import Derived.Test.YtmhbcfdodcnjmaaGreatDoorPFnSignalsReachx5
import Derived.Test.YtmhbcfdodcnjmaaGreatDoorPFnSignalsReachx7
namespace Go.Proofs.YtmhbcfdodcnjmaaGreatDoor.PFnSignalsReach
open Go.RowKit Go.Proofs.YtmhbcfdodcnjmaaGreatDoorW.PrintWords Go.Proofs.YtmhbcfdodcnjmaaGreatDoorW.PrintLast Go.Proofs.YtmhbcfdodcnjmaaGreatDoorW.PrintMore Go.Proofs.YtmhbcfdodcnjmaaGreatDoor.Sq
attribute [local go_sem] max2_int min2_int max_two min_two max_three min_three max_four min_four   -- for this text's walks alone
set_option linter.unusedVariables false
set_option linter.unusedSimpArgs false

/-! ### spec_DrawLeastTimeWith: function 55 -/
def spec_DrawLeastTimeWith.f (l0 : List Int) : Option (Int × Int) := (spec_l1Cur_one.f l0 0 0 6).bind fun bt361 => (if bt361.1 = true then ((spec_l1Cur_among.f l0 bt361.2.1 bt361.2.2 (([(-1), 0, 1, 16, 17, 100, 101] : List Int))).bind fun bt367 => ((spec_l1Cur_among.f l0 bt367.2.1 bt367.2.2 (([(-1), 0, 1, 2, 16, 100] : List Int))).bind fun bt373 => (some (bt367.1, bt373.1)))) else ((spec_l1Cur_pick.f l0 bt361.2.1 bt361.2.2 14).bind fun bt376 => ((spec_l1Cur_pick.f l0 bt376.2.1 bt376.2.2 (wrap64 (1 + bt376.1))).bind fun bt379 => (some (wrap64 (1 + bt376.1), wrap64 (1 + bt379.1))))))
set_option maxHeartbeats 8000000 in
set_option maxRecDepth 100000 in
theorem spec_DrawLeastTimeWith.calls (A0 : Option Addr) (c0 : Nat) (l0 : List Int) (r1 : Int) (r2 : Int) (w : World) (hr0 : Kd.C (Kd.int .u8) w A0 l0.length l0) (hc0 : l0.length ≤ c0) (h : spec_DrawLeastTimeWith.f l0 = some (r1, r2)) :
  Calls Tryz.prog 55 #[.slice A0 l0.length c0] w fun e w' => e = .returned (.tuple #[.int .i64 r1, .int .i64 r2]) ∧ Below w.heap.size w w' := by
 have hu59 := Tryz.underlying59
 have HR0 := Aside0.mk hr0
 have HC0 := Aside0.mk hc0
 clear hr0 hc0
 have HB := Aside0.mk (Below.refl w.heap.size w)
 unfold spec_DrawLeastTimeWith.f at h
 have H := h
 clear h
 replace H := Option.bind_eq_some_iff.mp H
 obtain ⟨⟨t361, t362, t363⟩, A20, H⟩ := H
 (try dsimp only at H)
 have A2 := Aside0.mk A20
 clear A20
 by_cases c3 : t361 = true
 ·subst c3
  rw [if_pos rfl] at H
  obtain ⟨y364, hy364⟩ : ∃ y_ : List Int, y_ = (([(-1), 0, 1, 16, 17, 100, 101] : List Int)) := ⟨_, rfl⟩
  replace H : ((spec_l1Cur_among.f l0 t362 t363 y364).bind fun bt367 => ((spec_l1Cur_among.f l0 bt367.2.1 bt367.2.2 (([(-1), 0, 1, 2, 16, 100] : List Int))).bind fun bt373 => (some (bt367.1, bt373.1)))) = some (r1, r2) := by first | (rw [hy364]; with_reducible exact H) | (have H2_ := (Option.bind_some _ _).symm.trans H; rw [hy364]; with_reducible exact H2_) | (have H2_ := (Option.bind_some _ _).symm.trans H; with_reducible exact H2_) | with_reducible exact H | (rw [hy364]; exact H) | exact H
  have Ny364 := Aside0.mk hy364
  clear hy364
  replace H := Option.bind_eq_some_iff.mp H
  obtain ⟨⟨t367, t368, t369⟩, A40, H⟩ := H
  (try dsimp only at H)
  have A4 := Aside0.mk A40
  clear A40
  obtain ⟨y370, hy370⟩ : ∃ y_ : List Int, y_ = (([(-1), 0, 1, 2, 16, 100] : List Int)) := ⟨_, rfl⟩
  replace H : ((spec_l1Cur_among.f l0 t368 t369 y370).bind fun bt373 => (some (t367, bt373.1))) = some (r1, r2) := by first | (rw [hy370]; with_reducible exact H) | (have H2_ := (Option.bind_some _ _).symm.trans H; rw [hy370]; with_reducible exact H2_) | (have H2_ := (Option.bind_some _ _).symm.trans H; with_reducible exact H2_) | with_reducible exact H | (rw [hy370]; exact H) | exact H
  have Ny370 := Aside0.mk hy370
  clear hy370
  replace H := Option.bind_eq_some_iff.mp H
  obtain ⟨⟨t373, t374, t375⟩, A50, H⟩ := H
  (try dsimp only at H)
  have A5 := Aside0.mk A50
  clear A50
  simp only [Option.some.injEq, Prod.mk.injEq] at H
  obtain ⟨rfl, rfl⟩ := H
  go_enter Tryz.func55, Tryz.ntmps55
  go_wp2_with (first | ((with_reducible refine gate_dst (N := 8) rfl ?_); refine box_event ?hg (N := 8) ?hd (cs := #[.slice A0 l0.length c0, .int .i64 0, .int .u64 0]) (t := 59) ?hr ?_; (case hd => rfl); (case hg => rfl); (case hr => first | (go_simp; done) | (go_simp; rfl)); intro gb360 hg w6 hbox hb; have GW360 := gs hg; have GE360 := gs hg; have HI360 := Aside0.mk ((show IsS59 w _ gb360 l0 0 0 from ⟨_, _, hbox, (by rw [hg]; exact (below_size bw)), HR0.out⟩)); replace HB := bs hb; clear hb hbox hg) | ((with_reducible refine gate_callee (f := 75) rfl ?_); refine gl (some 10) Tryz.func75 #[.pointer (some ⟨gb360, 0, none⟩), .int .i64 6] ?_; (with_reducible refine (spec_l1Cur_one.calls gb360 l0 0 0 6 true t362 t363 w _ ?side1 ?side2 A2.out).mono ?_); (case side1 => exact hi59); (case side2 => exact hb59); rintro e w7 ⟨rfl, hi, hb, hk⟩; refine ⟨_, rfl, ?_⟩; replace HB := Aside0.mk (hb); replace HI360 := Aside0.mk (hi); (try clear hb)) | ((with_reducible refine gate_dst (N := 12) rfl ?_); refine Kd.R_lit (Kd.int .i64) _ 3 ?hg (N := 12) ?hd (xs := ([(-1), 0, 1, 16, 17, 100, 101] : List Int)) (inner := [.int .i64 (-1), .int .i64 0, .int .i64 1, .int .i64 16, .int .i64 17, .int .i64 100, .int .i64 101]) (ok := fun _ => True) (okp := fun _ => True) ?hr ?hp (fun _ hk => hk) trivial (Below.refl _ _) (Nat.le_refl _) (by simp) ?_; (case hd => rfl); (case hg => rfl); (case hr => first | (go_simp; done) | (go_simp; rfl)); (case hp => exact (Reps.one (show Kd.M (Kd.int .i64) _ _ _ (-1) [.int .i64 (-1)] from rfl) (Reps.one (show Kd.M (Kd.int .i64) _ _ _ 0 [.int .i64 0] from rfl) (Reps.one (show Kd.M (Kd.int .i64) _ _ _ 1 [.int .i64 1] from rfl) (Reps.one (show Kd.M (Kd.int .i64) _ _ _ 16 [.int .i64 16] from rfl) (Reps.one (show Kd.M (Kd.int .i64) _ _ _ 17 [.int .i64 17] from rfl) (Reps.one (show Kd.M (Kd.int .i64) _ _ _ 100 [.int .i64 100] from rfl) (Reps.one (show Kd.M (Kd.int .i64) _ _ _ 101 [.int .i64 101] from rfl) (Reps.none _ _))))))))); intro v365 w8 ho9 hb hg_ hnew_; clear hg_ hnew_; (first | rw [← Ny364.out] at ho9 | (simp only [Int.reduceToNat] at ho9; rw [← Ny364.out] at ho9)); have HO366 := Aside0.mk (Kd.R_lower ho9 (below_size hb59)); replace HB := bt59 HB hb; replace HI360 := ib59 HI360 hb; clear hb ho9; obtain ⟨Ao10, co10, eo10⟩ := Kd.R_slice HO366.out; subst eo10) | ((with_reducible refine gate_callee (f := 39) rfl ?_); refine gl (some 13) Tryz.func39 #[.pointer (some ⟨gb360, 0, none⟩), .slice Ao10 y364.length co10] ?_; (with_reducible refine (spec_l1Cur_among.calls gb360 l0 t362 t363 _ _ y364 t367 t368 t369 w _ ?side1 ?side2 ?side3 ?side4 ?side5 A4.out).mono ?_); (case side1 => exact hi59); (case side2 => exact hb59); (case side3 => exact rr HO366); (case side4 => exact rn HO366); (case side5 => exact far_slice (IsS59.own_ne HI360.out HO366.out (by decide))); rintro e w11 ⟨rfl, hi, hb, hk⟩; refine ⟨_, rfl, ?_⟩; replace HO366 := Aside0.mk (Kd.R_mono (Kd.R_keep (IsS59.apart (show IsS59 w _ gb360 l0 t362 t363 from hi59) (pr HO366) (by decide)) hk (fun _ h => h.2)) (fun _ h => h.1)); replace HB := Aside0.mk (hb); replace HI360 := Aside0.mk (hi); (try clear hb)) | ((with_reducible refine gate_dst (N := 15) rfl ?_); refine Kd.R_lit (Kd.int .i64) _ 3 ?hg (N := 15) ?hd (xs := ([(-1), 0, 1, 2, 16, 100] : List Int)) (inner := [.int .i64 (-1), .int .i64 0, .int .i64 1, .int .i64 2, .int .i64 16, .int .i64 100]) (ok := fun _ => True) (okp := fun _ => True) ?hr ?hp (fun _ hk => hk) trivial (Below.refl _ _) (Nat.le_refl _) (by simp) ?_; (case hd => rfl); (case hg => rfl); (case hr => first | (go_simp; done) | (go_simp; rfl)); (case hp => exact (Reps.one (show Kd.M (Kd.int .i64) _ _ _ (-1) [.int .i64 (-1)] from rfl) (Reps.one (show Kd.M (Kd.int .i64) _ _ _ 0 [.int .i64 0] from rfl) (Reps.one (show Kd.M (Kd.int .i64) _ _ _ 1 [.int .i64 1] from rfl) (Reps.one (show Kd.M (Kd.int .i64) _ _ _ 2 [.int .i64 2] from rfl) (Reps.one (show Kd.M (Kd.int .i64) _ _ _ 16 [.int .i64 16] from rfl) (Reps.one (show Kd.M (Kd.int .i64) _ _ _ 100 [.int .i64 100] from rfl) (Reps.none _ _)))))))); intro v371 w12 ho13 hb hg_ hnew_; clear hg_ hnew_; (first | rw [← Ny370.out] at ho13 | (simp only [Int.reduceToNat] at ho13; rw [← Ny370.out] at ho13)); have HO372 := Aside0.mk (Kd.R_lower (Kd.R_new' ho13 (Kd.R_lt (pr HO366))) (below_size hb59)); replace HO366 := re HO366 ho13 hb; replace HB := bt59 HB hb; replace HI360 := ib59 HI360 hb; clear hb ho13; obtain ⟨Ao14, co14, eo14⟩ := Kd.R_slice HO372.out; subst eo14) | ((with_reducible refine gate_callee (f := 39) rfl ?_); refine gl (some 16) Tryz.func39 #[.pointer (some ⟨gb360, 0, none⟩), .slice Ao14 y370.length co14] ?_; (with_reducible refine (spec_l1Cur_among.calls gb360 l0 t368 t369 _ _ y370 t373 t374 t375 w _ ?side1 ?side2 ?side3 ?side4 ?side5 A5.out).mono ?_); (case side1 => exact hi59); (case side2 => exact hb59); (case side3 => exact rr HO372); (case side4 => exact rn HO372); (case side5 => exact far_slice (IsS59.own_ne HI360.out HO372.out (by decide))); rintro e w15 ⟨rfl, hi, hb, hk⟩; refine ⟨_, rfl, ?_⟩; replace HO366 := Aside0.mk (Kd.R_mono (Kd.R_keep (IsS59.apart (show IsS59 w _ gb360 l0 t368 t369 from hi59) (pr HO366) (by decide)) hk (fun _ h => h.2)) (fun _ h => h.1)); replace HO372 := Aside0.mk (Kd.R_mono (Kd.R_keep (IsS59.apart (show IsS59 w _ gb360 l0 t368 t369 from hi59) (pr HO372) (by decide)) hk (fun _ h => h.2)) (fun _ h => h.1)); replace HB := Aside0.mk (hb); replace HI360 := Aside0.mk (hi); (try clear hb)))
  go_ret2
  exact ⟨rs, hb59⟩
 ·replace c3 := Bool.eq_false_iff.mpr c3
  subst c3
  rw [if_neg (show ¬ (false = true) by decide)] at H
  replace H := Option.bind_eq_some_iff.mp H
  obtain ⟨⟨t376, t377, t378⟩, A160, H⟩ := H
  (try dsimp only at H)
  have A16 := Aside0.mk A160
  clear A160
  replace H := Option.bind_eq_some_iff.mp H
  obtain ⟨⟨t379, t380, t381⟩, A170, H⟩ := H
  (try dsimp only at H)
  have A17 := Aside0.mk A170
  clear A170
  simp only [Option.some.injEq, Prod.mk.injEq] at H
  obtain ⟨rfl, rfl⟩ := H
  go_enter Tryz.func55, Tryz.ntmps55
  go_wp2_with (first | ((with_reducible refine gate_dst (N := 8) rfl ?_); refine box_event ?hg (N := 8) ?hd (cs := #[.slice A0 l0.length c0, .int .i64 0, .int .u64 0]) (t := 59) ?hr ?_; (case hd => rfl); (case hg => rfl); (case hr => first | (go_simp; done) | (go_simp; rfl)); intro gb360 hg w18 hbox hb; have GW360 := gs hg; have GE360 := gs hg; have HI360 := Aside0.mk ((show IsS59 w _ gb360 l0 0 0 from ⟨_, _, hbox, (by rw [hg]; exact (below_size bw)), HR0.out⟩)); replace HB := bs hb; clear hb hbox hg) | ((with_reducible refine gate_callee (f := 75) rfl ?_); refine gl (some 10) Tryz.func75 #[.pointer (some ⟨gb360, 0, none⟩), .int .i64 6] ?_; (with_reducible refine (spec_l1Cur_one.calls gb360 l0 0 0 6 false t362 t363 w _ ?side1 ?side2 A2.out).mono ?_); (case side1 => exact hi59); (case side2 => exact hb59); rintro e w19 ⟨rfl, hi, hb, hk⟩; refine ⟨_, rfl, ?_⟩; replace HB := Aside0.mk (hb); replace HI360 := Aside0.mk (hi); (try clear hb)) | ((with_reducible refine gate_callee (f := 80) rfl ?_); refine gl (some 18) Tryz.func80 #[.pointer (some ⟨gb360, 0, none⟩), .int .i64 14] ?_; (with_reducible refine (spec_l1Cur_pick.calls gb360 l0 t362 t363 14 t376 t377 t378 w _ ?side1 ?side2 A16.out).mono ?_); (case side1 => exact hi59); (case side2 => exact hb59); rintro e w20 ⟨rfl, hi, hb, hk⟩; refine ⟨_, rfl, ?_⟩; replace HB := Aside0.mk (hb); replace HI360 := Aside0.mk (hi); (try clear hb)) | ((with_reducible refine gate_callee (f := 80) rfl ?_); refine gl (some 23) Tryz.func80 #[.pointer (some ⟨gb360, 0, none⟩), .int .i64 (wrap64 (1 + t376))] ?_; (with_reducible refine (spec_l1Cur_pick.calls gb360 l0 t377 t378 (wrap64 (1 + t376)) t379 t380 t381 w _ ?side1 ?side2 A17.out).mono ?_); (case side1 => exact hi59); (case side2 => exact hb59); rintro e w21 ⟨rfl, hi, hb, hk⟩; refine ⟨_, rfl, ?_⟩; replace HB := Aside0.mk (hb); replace HI360 := Aside0.mk (hi); (try clear hb)))
  go_ret2
  exact ⟨rs, hb59⟩

/-! ### spec_DrawBestStarts: function 20 -/
def spec_DrawBestStarts.f (l0 : List Int) : Option (Int × Int) := (spec_DrawLeastTimeWith.f l0).bind fun bt382 => (some (bt382.1, bt382.2))
set_option maxHeartbeats 8000000 in
set_option maxRecDepth 100000 in
theorem spec_DrawBestStarts.calls (A0 : Option Addr) (c0 : Nat) (l0 : List Int) (r1 : Int) (r2 : Int) (w : World) (hr0 : Kd.C (Kd.int .u8) w A0 l0.length l0) (hc0 : l0.length ≤ c0) (h : spec_DrawBestStarts.f l0 = some (r1, r2)) :
  Calls Tryz.prog 20 #[.slice A0 l0.length c0] w fun e w' => e = .returned (.tuple #[.int .i64 r1, .int .i64 r2]) ∧ Below w.heap.size w w' := by
 have HR0 := Aside0.mk hr0
 have HC0 := Aside0.mk hc0
 clear hr0 hc0
 have HB := Aside0.mk (Below.refl w.heap.size w)
 unfold spec_DrawBestStarts.f at h
 have H := h
 clear h
 replace H := Option.bind_eq_some_iff.mp H
 obtain ⟨⟨t382, t383⟩, A20, H⟩ := H
 (try dsimp only at H)
 have A2 := Aside0.mk A20
 clear A20
 simp only [Option.some.injEq, Prod.mk.injEq] at H
 obtain ⟨rfl, rfl⟩ := H
 go_enter Tryz.func20, Tryz.ntmps20
 go_wp2_with (first | ((with_reducible refine gate_callee (f := 55) rfl ?_); refine gl (some 5) Tryz.func55 #[.slice A0 l0.length c0] ?_; (with_reducible refine (spec_DrawLeastTimeWith.calls _ _ l0 t382 t383 _ ?side1 ?side2 A2.out).mono ?_); (case side1 => exact cr HR0); (case side2 => exact HC0.out); rintro e w3 ⟨rfl, hb⟩; refine ⟨_, rfl, ?_⟩; replace HB := bs hb; (try clear hb)))
 go_ret2
 exact ⟨rs, bw⟩

/-! ### impl_leastTimeWith: function 57 -/
def impl_leastTimeWith.l0 : Nat → Int → Int → Int → Option (Int)
  | 0, _, _, _ => none
  | k + 1, x0, x1, x5 => if (wrap64 ((wrap64 ((wrap64 (2 * x5)) + 1)) * x1)) < x0 then (impl_leastTimeWith.l0 k x0 x1 (wrap64 (x5 + 1))) else (some x5)
def impl_leastTimeWith.f (k : Nat) (a0 : Int) (a1 : Int) : Option (Int) := impl_leastTimeWith.l0 k a0 a1 0
theorem impl_leastTimeWith.mono_l : ∀ k, (∀ y0 y1 y2, LeO (impl_leastTimeWith.l0 k y0 y1 y2) (impl_leastTimeWith.l0 (k + 1) y0 y1 y2))
  | 0 => fun _ _ _ r h => by simp [impl_leastTimeWith.l0] at h
  | k + 1 => by
    have ih0 := impl_leastTimeWith.mono_l k
    · intro y0 y1 y2
      unfold impl_leastTimeWith.l0
      repeat' first
      | (with_reducible exact ih0 _ _ _)
      | (with_reducible exact LeO.refl _)
      | (with_reducible exact LeO.none _)
      | (with_reducible refine LeO.ite ?_ ?_)
      | (with_reducible refine LeO.bind ?_ (fun _ => ?_))
      | exact ih0 _ _ _
      | exact LeO.none _
      | refine LeO.ite ?_ ?_
      | refine LeO.bind ?_ (fun _ => ?_)
theorem impl_leastTimeWith.mono : ∀ a0 a1 k, LeO (impl_leastTimeWith.f k a0 a1) (impl_leastTimeWith.f (k + 1) a0 a1) := by
  intro a0 a1 k
  have ih0 := impl_leastTimeWith.mono_l k
  unfold impl_leastTimeWith.f
  repeat' first
      | (with_reducible exact ih0 _ _ _)
      | (with_reducible exact LeO.refl _)
      | (with_reducible exact LeO.none _)
      | (with_reducible refine LeO.ite ?_ ?_)
      | (with_reducible refine LeO.bind ?_ (fun _ => ?_))
      | exact ih0 _ _ _
      | exact LeO.none _
      | refine LeO.ite ?_ ?_
      | refine LeO.bind ?_ (fun _ => ?_)
set_option maxHeartbeats 8000000 in
set_option maxRecDepth 100000 in
theorem impl_leastTimeWith.calls (k : Nat) (a0 : Int) (a1 : Int) (r : Int) (w : World) (h : impl_leastTimeWith.f k a0 a1 = some r) :
  Calls Tryz.prog 57 #[.int .i64 a0, .int .i64 a1] w fun e w' => e = .returned (.int .i64 r) ∧ Drawn0 w w' := by
 unfold impl_leastTimeWith.f at h
 have H := h
 clear h
 have H' := Aside0.mk H
 clear H
 go_enter Tryz.func57, Tryz.ntmps57
 go_wp2
 go_loopg [5] k (fun kq v5 w' => ∃ (x5_1 : Int), v5 = .int .i64 x5_1 ∧ Aside0 (impl_leastTimeWith.l0 kq a0 a1 x5_1 = some r) ∧ Aside0 (kq ≤ k) ∧ Drawn0 w w')
 case atStart => exact ⟨(0), (rs), H', ⟨Nat.le_refl _⟩, by repeat (first | exact Drawn0.refl _ | apply Drawn0.step)⟩
 case round =>
  clear H'
  try clear p2
  obtain ⟨x5_1, rfl, HA, HK1, ⟨m1, rfl⟩⟩ := hrel
  cases gk with
  | zero => exact absurd HA.out (by simp [impl_leastTimeWith.l0])
  | succ k1 =>
   have H := HA.out
   clear HA
   simp only [impl_leastTimeWith.l0] at H
   by_cases c3 : (wrap64 ((wrap64 ((wrap64 (2 * x5_1)) + 1)) * a1)) < a0
   ·rw [if_pos c3] at H
    have c3b0 : decide ((wrap64 ((wrap64 ((wrap64 (2 * x5_1)) + 1)) * a1)) < a0) = true := decide_eq_true c3
    clear c3
    have H' := Aside0.mk H
    clear H
    go_wp2
    go_roundg k1
    case measure => have := HK1.out; omega
    case rel => exact ⟨(wrap64 (x5_1 + 1)), (rs), H', ⟨by have := HK1.out; omega⟩, by repeat (first | exact Drawn0.refl _ | apply Drawn0.step)⟩
   ·rw [if_neg c3] at H
    have c3b0 : decide ((wrap64 ((wrap64 ((wrap64 (2 * x5_1)) + 1)) * a1)) < a0) = false := decide_eq_false c3
    clear c3
    obtain rfl := Option.some.inj H
    go_wp2
    go_ret
    exact ⟨rs, by repeat (first | exact Drawn0.refl _ | apply Drawn0.step)⟩

/-! ### slices_Clone_int_int: function 59 -/
def slices_Clone_int_int.f (l0 : List (Int)) : Option (List (Int)) := if l0.length < 17592186044416 then (some l0) else none
set_option maxHeartbeats 8000000 in
set_option maxRecDepth 100000 in
theorem slices_Clone_int_int.calls (A0 : Option Addr) (c0 : Nat) (l0 : List (Int)) (r : List (Int)) (w : World) (hr0 : Kd.C (Kd.int .i64) w A0 l0.length l0) (hc0 : l0.length ≤ c0) (h : slices_Clone_int_int.f l0 = some r) :
  Calls Tryz.prog 59 #[.slice A0 l0.length c0] w fun e w' => ∃ v0_ : Value, e = .returned (v0_) ∧ Kd.R (Kd.int .i64) 3 w' w.heap.size (fun _ => True) v0_ r ∧ Below w.heap.size w w' := by
 have HR0 := Aside0.mk hr0
 have HC0 := Aside0.mk hc0
 clear hr0 hc0
 have HB := Aside0.mk (Below.refl w.heap.size w)
 unfold slices_Clone_int_int.f at h
 by_cases c2 : l0.length < 17592186044416
 ·rw [if_pos c2] at h
  have LMc2 := Aside0.mk c2
  clear c2
  obtain rfl := Option.some.inj h
  clear h
  have qnil : ∀ (w : World) (a : Option Addr) (n c n' c' : Nat), (binOp .eql 27 (.slice a n c) (.slice none n' c')).run Tryz.prog w = .ok (.bool a.isNone) w := fun w a n c n' c' => Lib.run_eql_slice_nil w _ _ a n c n' c' Tryz.underlying27
  cases A0 with
  | none =>
   obtain rfl : l0 = [] := by
    rcases l0 with _ | ⟨x, l0⟩
    ·rfl
    ·obtain ⟨ad, he, _⟩ := HR0.out.2.2 (by simp)
     cases he
   go_enter Tryz.func59, Tryz.ntmps59
   go_wp2
   go_ret
   exact ⟨_, rfl, Kd.R_nil _ _ _ _ _, by repeat (first | exact HB.out | apply pw_below_drewN)⟩
  | some ad0 =>
   obtain ⟨y172, hy172⟩ : ∃ y_ : List (Int), y_ = ([] : List (Int)) := ⟨_, rfl⟩
   have Ny172 := Aside0.mk hy172
   obtain ⟨y175, hy175⟩ : ∃ y_ : List (Int), y_ = y172 ++ l0 := ⟨_, rfl⟩
   have Ny175 := Aside0.mk hy175
   have E175 := Aside0.mk (show y175 = l0 by rw [hy175, hy172]; rfl)
   have LM := Aside0.mk (show y172.length + l0.length < 17592186044416 by rw [hy172]; simpa using LMc2.out)
   clear hy172 hy175
   go_enter Tryz.func59, Tryz.ntmps59
   go_wp2_with (first | ((with_reducible refine gate_dst (N := 5) rfl ?_); refine Kd.R_lit (Kd.int .i64) _ 3 ?hg (N := 5) ?hd (xs := ([] : List (Int))) (inner := []) (ok := fun _ => True) (okp := fun _ => True) ?hr ?hp (fun _ hk => hk) trivial (Below.refl _ _) (Nat.le_refl _) (by simp) ?_; (case hd => rfl); (case hg => rfl); (case hr => first | (go_simp; done) | (go_simp; rfl)); (case hp => exact (Reps.none _ _)); intro v173 w3 ho4 hb hg_ hnew_; clear hg_ hnew_; rw [← Ny172.out] at ho4; have HO174 := Aside0.mk (Kd.R_lower ho4 (below_size HB.out)); have n0_ := Aside0.mk (below_step HB.out hb); clear HB; have HB := n0_; clear n0_ hb ho4) | ((with_reducible refine gate_builtin (b := .append) (xs := #[.tmp 5, .tmp 6]) rfl ?_); at_builtin; refine Kd.R_append_rows (Kd.int .i64) (w0 := w) w.heap.size rfl (.tmp 5) (.tmp 6) 27 3 (.int .i64 0) 8 rfl Tryz.underlying27 info3 rfl (by decide) (by omega) v173 y172 l0 _ _ _ (fun _ => True) (fun _ => False) rfl rfl ?aO ?aR (fun _ _ h => h) (fun _ h => h.elim) ?aF ?aB ?aS ?aL ?_; (case aR => exact cb HR0); (case aB => repeat (first | exact HB.out | apply pw_below_drewN | apply below_alloc)); (case aF => exact (fun _ _ => trivial)); (case aO => (with_reducible repeat (first | apply Kd.R_alloc | apply Kd.R_drewN | apply Kd.R_drew)); exact HO174.out); (case aS => exact (below_size (by repeat (first | exact HB.out | apply pw_below_drewN | apply below_alloc)))); (case aL => have := LM.out; omega); intro v176 w5 ho hb hg hat; rw [← Ny175.out] at ho; have n0_ := Aside0.mk hb; have HO177 := Aside0.mk ho; clear HB HO174; have HB := n0_; clear n0_ ho hb hg hat))
   go_ret
   exact ⟨_, rfl, by (with_reducible repeat (first | apply Kd.R_alloc | apply Kd.R_drewN | apply Kd.R_drew)); exact E175.out ▸ HO177.out, by repeat (first | exact HB.out | apply pw_below_drewN)⟩
 ·rw [if_neg c2] at h
  exact absurd h (by simp)

/-! ### impl_BestStarts: function 21 -/
mutual
def impl_BestStarts_find.l : Nat → Int → Int → Int → List Int → Int → Option (Option (List Int))
  | 0, _, _, _, _, _ => none
  | k + 1, s, m, due, l, x => if x ≤ wrap64 (s - wrap64 (m - (l.length : Int))) then (if l.length < 4398046511104 then ((impl_BestStarts_find.f k s m due (l ++ [x]) (wrap64 (x + 1))).bind fun o => (if o.isSome = true then some o else impl_BestStarts_find.l k s m due l (wrap64 (x + 1)))) else none) else some none
def impl_BestStarts_find.f : Nat → Int → Int → Int → List Int → Int → Option (Option (List Int))
  | 0, _, _, _, _, _ => none
  | k + 1, s, m, due, l, x => if (l.length : Int) = m then ((impl_spread.f k s l).bind fun sp => ((slices_Max_int_int.f k sp).bind fun t => if t = due then some (some l) else some none)) else impl_BestStarts_find.l k s m due l x
end
def impl_BestStarts_res (w : World) (base : Nat) (v : Value) : Option (List Int) → Prop
  | none => v = .slice none 0 0
  | some r => (∃ ad n c, v = .slice (some ad) n c) ∧ Kd.R (Kd.int .i64) 3 w base (fun _ => True) v r
theorem impl_BestStarts_find.mono_l : ∀ k, (∀ s m due l x, LeO (impl_BestStarts_find.l k s m due l x) (impl_BestStarts_find.l (k + 1) s m due l x)) ∧ (∀ s m due l x, LeO (impl_BestStarts_find.f k s m due l x) (impl_BestStarts_find.f (k + 1) s m due l x))
  | 0 => ⟨fun _ _ _ _ _ r h => by simp [impl_BestStarts_find.l] at h, fun _ _ _ _ _ r h => by simp [impl_BestStarts_find.f] at h⟩
  | k + 1 => by
    obtain ⟨ih0, ih1⟩ := impl_BestStarts_find.mono_l k
    constructor
    · intro s m due l x
      rw [impl_BestStarts_find.l, impl_BestStarts_find.l]
      exact LeO.ite (LeO.ite (LeO.bind (ih1 _ _ _ _ _) (fun _ => LeO.ite (LeO.refl _) (ih0 _ _ _ _ _))) (LeO.refl _)) (LeO.refl _)
    · intro s m due l x
      rw [impl_BestStarts_find.f, impl_BestStarts_find.f]
      exact LeO.ite (LeO.bind (impl_spread.mono _ _ _) (fun _ => LeO.bind (slices_Max_int_int.mono _ _) (fun _ => LeO.refl _))) (ih0 _ _ _ _ _)
def impl_BestStarts.f (k : Nat) (a0 : Int) (a1 : Int) : Option (List Int × Bool) := (impl_in.f a0 1 16).bind fun t1 => (if t1 = true then ((impl_in.f a1 1 a0).bind fun t2 => (if t2 = true then ((impl_leastTimeWith.f k a0 a1).bind fun due => ((impl_BestStarts_find.f k a0 a1 due [] 0).bind fun o => some (o.getD [], o.isSome))) else some ([], false))) else some ([], false))
theorem impl_BestStarts.mono : ∀ a0 a1 k, LeO (impl_BestStarts.f k a0 a1) (impl_BestStarts.f (k + 1) a0 a1) := by
  intro a0 a1 k
  unfold impl_BestStarts.f
  exact LeO.bind (LeO.refl _) (fun _ => LeO.ite (LeO.bind (LeO.refl _) (fun _ => LeO.ite (LeO.bind (impl_leastTimeWith.mono _ _ _) (fun _ => LeO.bind ((impl_BestStarts_find.mono_l k).2 _ _ _ _ _) (fun _ => LeO.refl _))) (LeO.refl _))) (LeO.refl _))
theorem impl_BestStarts_nonnil {w : World} {base : Nat} {ok : Nat → Prop} {v : Value} {l : List Int} (h : Kd.R (Kd.int .i64) 3 w base ok v l) (hl : 0 < l.length) : ∃ ad n c, v = .slice (some ad) n c := by
  obtain ⟨A, c, rfl, _, hr⟩ := Kd.R_reads h
  obtain ⟨ad, e, _⟩ := Kd.at_int hr 0 (by omega) (by omega)
  exact ⟨ad, _, _, by rw [e]⟩
theorem impl_BestStarts_ne (W : World) (a : Option Addr) (n c n' c' : Nat) : (binOp .neq 27 (.slice a n c) (.slice none n' c')).run Tryz.prog W = .ok (.bool a.isSome) W := by
  have := Lib.run_equalIn_slice_nil (P := Tryz.prog) W 9999 27 _ a n c n' c' Tryz.underlying27
  simp only [binOp]
  simp [Op.equal, Op.maxDepth, this]
theorem impl_BestStarts_lit (W : World) (x : Int) : Kd.C (Kd.int .i64) (W.alloc (.cells #[.int .i64 x] 3)) (some ⟨W.heap.size, 0, none⟩) 1 [x] := by
  have h := own_lit W 0 3 .i64 [x] (Nat.zero_le _) (by simp)
  have hr : Kd.R (Kd.int .i64) 3 (W.alloc (.cells #[.int .i64 x] 3)) 0 (fun _ => True) (.slice (some ⟨W.heap.size, 0, none⟩) 1 1) [x] :=
    ⟨fun _ _ => trivial, [.int .i64 x], h, by simp [Kd.int, Kd.scalar], fun j p hj => by
      cases j with
      | zero => simp at hj; simp [Kd.int, Kd.scalar, hj]
      | succ j => simp at hj⟩
  obtain ⟨A, c, e, _, hc⟩ := Kd.R_reads hr
  injection e with e1 e2 e3
  rw [← e1] at hc
  exact hc
set_option maxHeartbeats 8000000 in
set_option maxRecDepth 100000 in
theorem impl_BestStarts_find.calls (k : Nat) : ∀ (s m due : Int) (gm gs gd gf base : Nat) (v : Value) (l : List Int) (x : Int) (r : Option (List Int)) (w : World) (hm : 1 ≤ m) (hgm : w.cell? ⟨gm, 0, none⟩ = some (.int .i64 m)) (hgs : w.cell? ⟨gs, 0, none⟩ = some (.int .i64 s)) (hgd : w.cell? ⟨gd, 0, none⟩ = some (.int .i64 due))
  (hgf : w.cell? ⟨gf, 0, none⟩ = some (.func (.func 58) #[] #[.pointer (some ⟨gm, 0, none⟩), .pointer (some ⟨gs, 0, none⟩), .pointer (some ⟨gd, 0, none⟩), .pointer (some ⟨gf, 0, none⟩)])) (hbase : base ≤ w.heap.size) (ho : Kd.R (Kd.int .i64) 3 w base (fun _ => True) v l) (h : impl_BestStarts_find.f k s m due l x = some r),
  Calls Tryz.prog 58 #[v, .int .i64 x, .pointer (some ⟨gm, 0, none⟩), .pointer (some ⟨gs, 0, none⟩), .pointer (some ⟨gd, 0, none⟩), .pointer (some ⟨gf, 0, none⟩)] w fun e w' => ∃ v0, e = .returned v0 ∧ impl_BestStarts_res w' base v0 r ∧ Below w.heap.size w w' := by
 induction k using Nat.strongRecOn with
 | _ k ih =>
 intro s m due gm gs gd gf base v l x r w hm hgm hgs hgd hgf hbase ho h
 cases k with
 | zero => exact absurd h (by simp [impl_BestStarts_find.f])
 | succ k =>
 rw [impl_BestStarts_find.f] at h
 obtain ⟨A, c, rfl, hlc, hrd⟩ := Kd.R_reads ho
 have HO := Aside0.mk ho
 have HRD := Aside0.mk hrd
 have HLC := Aside0.mk hlc
 have HM := Aside0.mk hm
 have HBS := Aside0.mk hbase
 have HGM := Aside0.mk hgm
 have HGS := Aside0.mk hgs
 have HGD := Aside0.mk hgd
 have HGF := Aside0.mk hgf
 have HB := Aside0.mk (Below.refl w.heap.size w)
 clear ho hrd hlc hm hbase
 have IH := Aside0.mk ih
 clear ih
 have mixed : Tryz.prog.follows Departure.mixedOrders = true := by kernel_rfl
 by_cases c1 : (l.length : Int) = m
 ·rw [if_pos c1] at h
  have c1b0 : ((l.length : Int) == m) = true := beq_iff_eq.mpr c1
  replace h := Option.bind_eq_some_iff.mp h
  obtain ⟨sp, a1, h⟩ := h
  replace h := Option.bind_eq_some_iff.mp h
  obtain ⟨t, a2, h⟩ := h
  have A1 := Aside0.mk a1
  have A2 := Aside0.mk a2
  clear a1 a2
  have hlen := Aside0.mk (show 0 < l.length by have := HM.out; omega)
  clear c1
  by_cases c2 : t = due
  ·rw [if_pos c2] at h
   subst c2
   obtain rfl := Option.some.inj h
   clear h
   go_enter Tryz.func58, Tryz.ntmps58
   go_wp2_with (fail)
   go_region_held3 (fun w' => w'.cell? ⟨gs, 0, none⟩ = some (.int .i64 s) ∧ w'.cell? ⟨gd, 0, none⟩ = some (.int .i64 t)) (go_keep) (first | (go_at_call 52; refine (impl_spread.calls k s A c l sp _ ?s1 ?s2 A1.out).mono ?_; (case s1 => exact Kd.C_below HRD.out (below_drew HB.out)); (case s2 => exact HLC.out); rintro e w' ⟨v1, rfl, ho1, hb⟩; obtain ⟨Ap, cp, rfl, hlp, hrp⟩ := Kd.R_reads ho1; have HRP := Aside0.mk hrp; have HLP := Aside0.mk hlp; have HB1 := Aside0.mk (below_step (below_drew HB.out) hb); clear hb ho1 hrp hlp HB; have HB := HB1; clear HB1; have e1 := (HB.out.cell (World.block_lt_of_cell? _ _ HGS.out)).trans HGS.out; have e2 := (HB.out.cell (World.block_lt_of_cell? _ _ HGD.out)).trans HGD.out) | (go_at_call 47; refine (slices_Max_int_int.calls k Ap cp sp t _ ?s1 ?s2 A2.out).mono ?_; (case s1 => exact HRP.out); (case s2 => exact HLP.out); rintro e w' ⟨rfl, hb⟩; have HB1 := Aside0.mk (below_step HB.out hb); clear hb HB e1 e2; have HB := HB1; clear HB1; have e1 := (HB.out.cell (World.block_lt_of_cell? _ _ HGS.out)).trans HGS.out; have e2 := (HB.out.cell (World.block_lt_of_cell? _ _ HGD.out)).trans HGD.out))
   go_wp2
   go_ret
   exact ⟨_, rfl, ⟨impl_BestStarts_nonnil HO.out hlen.out, Kd.R_below HO.out HB.out⟩, HB.out⟩
  ·rw [if_neg c2] at h
   have c2b0 : (t == due) = false := beq_eq_false_iff_ne.mpr c2
   clear c2
   obtain rfl := Option.some.inj h
   clear h
   go_enter Tryz.func58, Tryz.ntmps58
   go_wp2_with (fail)
   go_region_held3 (fun w' => w'.cell? ⟨gs, 0, none⟩ = some (.int .i64 s) ∧ w'.cell? ⟨gd, 0, none⟩ = some (.int .i64 due)) (go_keep) (first | (go_at_call 52; refine (impl_spread.calls k s A c l sp _ ?s1 ?s2 A1.out).mono ?_; (case s1 => exact Kd.C_below HRD.out (below_drew HB.out)); (case s2 => exact HLC.out); rintro e w' ⟨v1, rfl, ho1, hb⟩; obtain ⟨Ap, cp, rfl, hlp, hrp⟩ := Kd.R_reads ho1; have HRP := Aside0.mk hrp; have HLP := Aside0.mk hlp; have HB1 := Aside0.mk (below_step (below_drew HB.out) hb); clear hb ho1 hrp hlp HB; have HB := HB1; clear HB1; have e1 := (HB.out.cell (World.block_lt_of_cell? _ _ HGS.out)).trans HGS.out; have e2 := (HB.out.cell (World.block_lt_of_cell? _ _ HGD.out)).trans HGD.out) | (go_at_call 47; refine (slices_Max_int_int.calls k Ap cp sp t _ ?s1 ?s2 A2.out).mono ?_; (case s1 => exact HRP.out); (case s2 => exact HLP.out); rintro e w' ⟨rfl, hb⟩; have HB1 := Aside0.mk (below_step HB.out hb); clear hb HB e1 e2; have HB := HB1; clear HB1; have e1 := (HB.out.cell (World.block_lt_of_cell? _ _ HGS.out)).trans HGS.out; have e2 := (HB.out.cell (World.block_lt_of_cell? _ _ HGD.out)).trans HGD.out))
   go_wp2
   go_ret
   exact ⟨_, rfl, rfl, HB.out⟩
 ·rw [if_neg c1] at h
  have c1b0 : ((l.length : Int) == m) = false := beq_eq_false_iff_ne.mpr c1
  clear c1
  have H' := Aside0.mk h
  clear h
  go_enter Tryz.func58, Tryz.ntmps58
  go_wp2
  go_loopg [9] k (fun kq v9 w' => ∃ (x9 : Int), v9 = .int .i64 x9 ∧ Aside0 (impl_BestStarts_find.l kq s m due l x9 = some r) ∧ Aside0 (kq ≤ k) ∧ Aside0 (Below w.heap.size w w'))
  case atStart => exact ⟨x, rfl, H', ⟨Nat.le_refl _⟩, HB⟩
  case round =>
   clear H' HB
   obtain ⟨x9, rfl, HA, HK1, HB⟩ := hrel
   have hgm' := (HB.out.cell (World.block_lt_of_cell? _ _ HGM.out)).trans HGM.out
   have hgs' := (HB.out.cell (World.block_lt_of_cell? _ _ HGS.out)).trans HGS.out
   have hgf' := (HB.out.cell (World.block_lt_of_cell? _ _ HGF.out)).trans HGF.out
   clear hgm hgs hgd hgf
   cases gk with
   | zero => exact absurd HA.out (by simp [impl_BestStarts_find.l])
   | succ k1 =>
    have H := HA.out
    clear HA
    rw [impl_BestStarts_find.l] at H
    by_cases c4 : x9 ≤ wrap64 (s - wrap64 (m - (l.length : Int)))
    ·rw [if_pos c4] at H
     have c4b0 : decide (x9 ≤ wrap64 (s - wrap64 (m - (l.length : Int)))) = true := decide_eq_true c4
     clear c4
     by_cases c5 : l.length < 4398046511104
     ·rw [if_pos c5] at H
      have LM := Aside0.mk c5
      clear c5
      replace H := Option.bind_eq_some_iff.mp H
      obtain ⟨o, a3, H⟩ := H
      have A3 := Aside0.mk (show impl_BestStarts_find.f k1 s m due (l ++ [x9]) (IntKind.i64.wrap (x9 + 1)) = some o by rw [i64_w]; exact a3)
      have A4 := Aside0.mk (show slices_Clone_int_int.f l = some l by unfold slices_Clone_int_int.f; rw [if_pos (by have := LM.out; omega)])
      clear a3
      have HD := Aside0.mk H
      clear H
      have qne := impl_BestStarts_ne
      cases o with
      | none =>
       have H' := Aside0.mk (show impl_BestStarts_find.l k1 s m due l (wrap64 (x9 + 1)) = some r from by simpa using HD.out)
       clear HD
       go_wp2_with (fail)
       go_region_held3 (fun w' => w'.cell? ⟨gf, 0, none⟩ = some (.func (.func 58) #[] #[.pointer (some ⟨gm, 0, none⟩), .pointer (some ⟨gs, 0, none⟩), .pointer (some ⟨gd, 0, none⟩), .pointer (some ⟨gf, 0, none⟩)])) (go_keep) (first
        | (go_at_call 59; refine (slices_Clone_int_int.calls A c l l _ ?s1 ?s2 A4.out).mono ?_; (case s1 => exact Kd.C_below HRD.out (by repeat (first | exact HB.out | apply below_drew | apply below_alloc))); (case s2 => exact HLC.out); rintro e w' ⟨v1, rfl, ho1, hb⟩; have HO1 := Aside0.mk (Kd.R_lower ho1 (below_size (by repeat (first | exact HB.out | apply below_drew | apply below_alloc) : Below w.heap.size w _))); have HCB := Aside0.mk hb; have HB1 := Aside0.mk (below_step (by repeat (first | exact HB.out | apply below_drew | apply below_alloc)) hb); clear hb ho1 HB hgf'; have HB := HB1; clear HB1; have hgf' := (HB.out.cell (World.block_lt_of_cell? _ _ HGF.out)).trans HGF.out)
        | (refine Kd.R_append_rows_step (Kd.int .i64) (w0 := w) w.heap.size (by rfl) (.tmp 35) (.tmp 37) 27 3 (.int .i64 0) 8 rfl Tryz.underlying27 info3 rfl (by decide) (by omega) v1 l [x9] _ 1 1 (fun _ => True) (fun _ => False) rfl rfl ?aO ?aR (fun _ _ h => h) (fun _ h => h.elim) ?aF ?aB ?aS ?aL ?_; (case aO => (with_reducible repeat (first | apply Kd.R_alloc | apply Kd.R_drewN | apply Kd.R_drew)); exact HO1.out); (case aR => first | exact impl_BestStarts_lit _ _ | (refine Kd.C_below ?_ HCB.out; first | exact impl_BestStarts_lit _ _ | (refine Kd.C_drew ?_; exact impl_BestStarts_lit _ _))); (case aF => exact (fun _ _ => trivial)); (case aB => repeat (first | exact HB.out | apply below_drew | apply below_alloc)); (case aS => exact below_size (by repeat (first | exact HB.out | apply below_drew | apply below_alloc))); (case aL => have := LM.out; omega); intro v2 w2 ho2 hb2 hg2 hat2; have HO2 := Aside0.mk ho2; clear HB HO1 HCB hgf' ho2 hg2 hat2; have HB := Aside0.mk hb2; clear hb2; have hgf' := (HB.out.cell (World.block_lt_of_cell? _ _ HGF.out)).trans HGF.out)
        | (go_at_call 58; refine (IH.out k1 ?q1 s m due gm gs gd gf base v2 (l ++ [x9]) (IntKind.i64.wrap (x9 + 1)) none _ HM.out ?q2 ?q3 ?q4 ?q5 ?q6 ?q7 A3.out).mono ?_; (case q1 => have := HK1.out; omega); (case q2 => exact (HB.out.cell (World.block_lt_of_cell? _ _ HGM.out)).trans HGM.out); (case q3 => exact (HB.out.cell (World.block_lt_of_cell? _ _ HGS.out)).trans HGS.out); (case q4 => exact (HB.out.cell (World.block_lt_of_cell? _ _ HGD.out)).trans HGD.out); (case q5 => exact hgf'); (case q6 => exact Nat.le_trans HBS.out (below_size HB.out)); (case q7 => exact Kd.R_lower HO2.out HBS.out); rintro e w' ⟨v3, rfl, hv3, hb⟩; obtain rfl := (show v3 = .slice none 0 0 from hv3); clear hv3; have HB1 := Aside0.mk (below_step HB.out hb); clear hb HB hgf'; have HB := HB1; clear HB1; have hgf' := (HB.out.cell (World.block_lt_of_cell? _ _ HGF.out)).trans HGF.out))
       all_goals go_wp2
       all_goals (go_roundg k1)
       all_goals first
        | (have := HK1.out; omega)
        | exact ⟨wrap64 (x9 + 1), (by first | rfl | exact congrArg _ (i64_w _)), H', ⟨by have := HK1.out; omega⟩, HB⟩
      | some rr =>
       obtain rfl := (show some rr = r from by simpa using HD.out)
       clear HD
       go_wp2_with (fail)
       go_region_held3 (fun w' => w'.cell? ⟨gf, 0, none⟩ = some (.func (.func 58) #[] #[.pointer (some ⟨gm, 0, none⟩), .pointer (some ⟨gs, 0, none⟩), .pointer (some ⟨gd, 0, none⟩), .pointer (some ⟨gf, 0, none⟩)])) (go_keep) (first
        | (go_at_call 59; refine (slices_Clone_int_int.calls A c l l _ ?s1 ?s2 A4.out).mono ?_; (case s1 => exact Kd.C_below HRD.out (by repeat (first | exact HB.out | apply below_drew | apply below_alloc))); (case s2 => exact HLC.out); rintro e w' ⟨v1, rfl, ho1, hb⟩; have HO1 := Aside0.mk (Kd.R_lower ho1 (below_size (by repeat (first | exact HB.out | apply below_drew | apply below_alloc) : Below w.heap.size w _))); have HCB := Aside0.mk hb; have HB1 := Aside0.mk (below_step (by repeat (first | exact HB.out | apply below_drew | apply below_alloc)) hb); clear hb ho1 HB hgf'; have HB := HB1; clear HB1; have hgf' := (HB.out.cell (World.block_lt_of_cell? _ _ HGF.out)).trans HGF.out)
        | (refine Kd.R_append_rows_step (Kd.int .i64) (w0 := w) w.heap.size (by rfl) (.tmp 35) (.tmp 37) 27 3 (.int .i64 0) 8 rfl Tryz.underlying27 info3 rfl (by decide) (by omega) v1 l [x9] _ 1 1 (fun _ => True) (fun _ => False) rfl rfl ?aO ?aR (fun _ _ h => h) (fun _ h => h.elim) ?aF ?aB ?aS ?aL ?_; (case aO => (with_reducible repeat (first | apply Kd.R_alloc | apply Kd.R_drewN | apply Kd.R_drew)); exact HO1.out); (case aR => first | exact impl_BestStarts_lit _ _ | (refine Kd.C_below ?_ HCB.out; first | exact impl_BestStarts_lit _ _ | (refine Kd.C_drew ?_; exact impl_BestStarts_lit _ _))); (case aF => exact (fun _ _ => trivial)); (case aB => repeat (first | exact HB.out | apply below_drew | apply below_alloc)); (case aS => exact below_size (by repeat (first | exact HB.out | apply below_drew | apply below_alloc))); (case aL => have := LM.out; omega); intro v2 w2 ho2 hb2 hg2 hat2; have HO2 := Aside0.mk ho2; clear HB HO1 HCB hgf' ho2 hg2 hat2; have HB := Aside0.mk hb2; clear hb2; have hgf' := (HB.out.cell (World.block_lt_of_cell? _ _ HGF.out)).trans HGF.out)
        | (go_at_call 58; refine (IH.out k1 ?q1 s m due gm gs gd gf base v2 (l ++ [x9]) (IntKind.i64.wrap (x9 + 1)) (some rr) _ HM.out ?q2 ?q3 ?q4 ?q5 ?q6 ?q7 A3.out).mono ?_; (case q1 => have := HK1.out; omega); (case q2 => exact (HB.out.cell (World.block_lt_of_cell? _ _ HGM.out)).trans HGM.out); (case q3 => exact (HB.out.cell (World.block_lt_of_cell? _ _ HGS.out)).trans HGS.out); (case q4 => exact (HB.out.cell (World.block_lt_of_cell? _ _ HGD.out)).trans HGD.out); (case q5 => exact hgf'); (case q6 => exact Nat.le_trans HBS.out (below_size HB.out)); (case q7 => exact Kd.R_lower HO2.out HBS.out); rintro e w' ⟨v3, rfl, ⟨⟨ad3, n3, c3, rfl⟩, ho3⟩, hb⟩; have HO3 := Aside0.mk ho3; clear ho3; have HB1 := Aside0.mk (below_step HB.out hb); clear hb HB hgf'; have HB := HB1; clear HB1; have hgf' := (HB.out.cell (World.block_lt_of_cell? _ _ HGF.out)).trans HGF.out))
       all_goals go_wp2
       all_goals go_ret
       all_goals exact ⟨_, rfl, ⟨⟨_, _, _, rfl⟩, HO3.out⟩, HB.out⟩
     ·rw [if_neg c5] at H
      exact absurd H (by simp)
    ·rw [if_neg c4] at H
     have c4b0 : decide (x9 ≤ wrap64 (s - wrap64 (m - (l.length : Int)))) = false := decide_eq_false c4
     clear c4
     obtain rfl := Option.some.inj H
     clear H
     go_wp2
     go_ret
     exact ⟨_, rfl, rfl, HB.out⟩
theorem impl_BestStarts_emp (X : World) (base : Nat) (hb : base ≤ X.heap.size) : Kd.R (Kd.int .i64) 3 (X.alloc (.cells #[] 3)) base (fun _ => True) (.slice (some ⟨X.heap.size, 0, none⟩) 0 0) [] :=
  ⟨fun _ _ => trivial, [], own_lit X base 3 .i64 [] hb (by simp), by simp [Kd.int, Kd.scalar], fun j p hj => by simp at hj⟩
set_option maxHeartbeats 8000000 in
set_option maxRecDepth 100000 in
theorem impl_BestStarts.calls (k : Nat) (a0 : Int) (a1 : Int) (r1 : List Int) (r2 : Bool) (w : World) (h : impl_BestStarts.f k a0 a1 = some (r1, r2)) :
  Calls Tryz.prog 21 #[.int .i64 a0, .int .i64 a1] w fun e w' => ∃ v0_ : Value, e = .returned (.tuple #[v0_, .bool r2]) ∧ Kd.R (Kd.int .i64) 3 w' w.heap.size (fun _ => True) v0_ r1 ∧ Below w.heap.size w w' := by
 have HB := Aside0.mk (Below.refl w.heap.size w)
 replace h := Option.bind_eq_some_iff.mp h
 obtain ⟨t1, b1, h⟩ := h
 have B1 := Aside0.mk b1
 clear b1
 have hu3 := Tryz.underlying3
 cases t1 with
 | false =>
  simp only [Bool.false_eq_true, if_false, Option.some.injEq, Prod.mk.injEq] at h
  obtain ⟨rfl, rfl⟩ := h
  go_enter Tryz.func21, Tryz.ntmps21
  go_wp2_with (go_at_call 56; (with_reducible refine (impl_in.calls a0 1 16 false _ B1.out).mono ?_); rintro e w' ⟨rfl, ⟨n1, rfl⟩⟩)
  go_ret2
  exact ⟨_, rfl, Kd.R_nil _ _ _ _ _, by repeat (first | exact HB.out | apply pw_below_drewN | apply below_alloc)⟩
 | true =>
  replace h := Option.bind_eq_some_iff.mp (show ((impl_in.f a1 1 a0).bind fun t2 => (if t2 = true then ((impl_leastTimeWith.f k a0 a1).bind fun due => ((impl_BestStarts_find.f k a0 a1 due [] 0).bind fun o => some (o.getD [], o.isSome))) else some ([], false))) = some (r1, r2) from h)
  obtain ⟨t2, b2, h⟩ := h
  have B2 := Aside0.mk b2
  clear b2
  cases t2 with
  | false =>
   simp only [Bool.false_eq_true, if_false, Option.some.injEq, Prod.mk.injEq] at h
   obtain ⟨rfl, rfl⟩ := h
   go_enter Tryz.func21, Tryz.ntmps21
   go_wp2_with (go_at_call 56; first | ((with_reducible refine (impl_in.calls a0 1 16 true _ B1.out).mono ?_); rintro e w' ⟨rfl, ⟨n1, rfl⟩⟩) | ((with_reducible refine (impl_in.calls a1 1 a0 false _ B2.out).mono ?_); rintro e w' ⟨rfl, ⟨n2, rfl⟩⟩))
   go_ret2
   exact ⟨_, rfl, Kd.R_nil _ _ _ _ _, by repeat (first | exact HB.out | apply pw_below_drewN | apply below_alloc)⟩
  | true =>
   replace h := Option.bind_eq_some_iff.mp (show ((impl_leastTimeWith.f k a0 a1).bind fun due => ((impl_BestStarts_find.f k a0 a1 due [] 0).bind fun o => some (o.getD [], o.isSome))) = some (r1, r2) from h)
   obtain ⟨due, b3, h⟩ := h
   have B3 := Aside0.mk b3
   clear b3
   replace h := Option.bind_eq_some_iff.mp h
   obtain ⟨o, b4, h⟩ := h
   have B4 := Aside0.mk b4
   clear b4
   simp only [Option.some.injEq, Prod.mk.injEq] at h
   obtain ⟨rfl, rfl⟩ := h
   have hm1 : 1 ≤ a1 := by
    have := B2.out
    unfold impl_in.f at this
    by_cases hc : 1 ≤ a1
    ·exact hc
    ·rw [if_neg hc] at this; simp at this
   have HM1 := Aside0.mk hm1
   obtain ⟨W, hW⟩ : ∃ W : Nat → World, ∀ n, W n = (((((w.alloc (.cells #[Value.int .i64 a0] 3)).alloc (.cells #[Value.int .i64 a1] 3)).drewN n).alloc (.cells #[Value.int .i64 due] 3)).alloc (.cells #[Value.nilFunc] 72)) := ⟨_, fun _ => rfl⟩
   have k0 : ∀ n, (W n).heap[w.heap.size]? = some (.cells #[.int .i64 a0] 3 (0, 0)) := fun n => by rw [hW]; exact blk_alloc (blk_alloc (w := ((w.alloc (.cells #[Value.int .i64 a0] 3)).alloc (.cells #[Value.int .i64 a1] 3)).drewN n) (blk_alloc (blk_new w _) _) _) _
   have k1 : ∀ n, (W n).heap[w.heap.size + 1]? = some (.cells #[.int .i64 a1] 3 (0, 0)) := fun n => by rw [hW]; exact blk_alloc (blk_alloc (w := ((w.alloc (.cells #[Value.int .i64 a0] 3)).alloc (.cells #[Value.int .i64 a1] 3)).drewN n) (by have := blk_new (w.alloc (.cells #[Value.int .i64 a0] 3)) (.cells #[Value.int .i64 a1] 3); simpa using this) _) _
   have k2 : ∀ n, (W n).heap[w.heap.size + 1 + 1]? = some (.cells #[.int .i64 due] 3 (0, 0)) := fun n => by rw [hW]; exact blk_alloc (by have := blk_new (((w.alloc (.cells #[Value.int .i64 a0] 3)).alloc (.cells #[Value.int .i64 a1] 3)).drewN n) (.cells #[Value.int .i64 due] 3); simpa using this) _
   have k3 : ∀ n, (W n).heap[w.heap.size + 1 + 1 + 1]? = some (.cells #[.nilFunc] 72 (0, 0)) := fun n => by rw [hW]; have := blk_new ((((w.alloc (.cells #[Value.int .i64 a0] 3)).alloc (.cells #[Value.int .i64 a1] 3)).drewN n).alloc (.cells #[Value.int .i64 due] 3)) (.cells #[Value.nilFunc] 72); simpa using this
   have kb : ∀ n, Below w.heap.size w (W n) := fun n => by rw [hW]; exact below_alloc (below_alloc (pw_below_drewN (below_alloc (below_alloc HB.out _) _) n) _) _
   have hst : ∀ n, (store ⟨w.heap.size + 1 + 1 + 1, 0, none⟩ (Value.func (.func 58) #[] #[.pointer (some ⟨w.heap.size + 1, 0, none⟩), .pointer (some ⟨w.heap.size, 0, none⟩), .pointer (some ⟨w.heap.size + 1 + 1, 0, none⟩), .pointer (some ⟨w.heap.size + 1 + 1 + 1, 0, none⟩)])).run Tryz.prog (W n) = .ok () ((W n).setCell ⟨w.heap.size + 1 + 1 + 1, 0, none⟩ (Value.func (.func 58) #[] #[.pointer (some ⟨w.heap.size + 1, 0, none⟩), .pointer (some ⟨w.heap.size, 0, none⟩), .pointer (some ⟨w.heap.size + 1 + 1, 0, none⟩), .pointer (some ⟨w.heap.size + 1 + 1 + 1, 0, none⟩)])) := fun n => by
    rw [run_store Tryz.prog (W n) _ (Value.func (.func 58) #[] #[.pointer (some ⟨w.heap.size + 1, 0, none⟩), .pointer (some ⟨w.heap.size, 0, none⟩), .pointer (some ⟨w.heap.size + 1 + 1, 0, none⟩), .pointer (some ⟨w.heap.size + 1 + 1 + 1, 0, none⟩)]) _ (by rfl), (blk_cell (k3 n) 0).trans rfl]
    simp [blk_frozen (k3 n) 0]
   have hld : ∀ n, ((W n).setCell ⟨w.heap.size + 1 + 1 + 1, 0, none⟩ (Value.func (.func 58) #[] #[.pointer (some ⟨w.heap.size + 1, 0, none⟩), .pointer (some ⟨w.heap.size, 0, none⟩), .pointer (some ⟨w.heap.size + 1 + 1, 0, none⟩), .pointer (some ⟨w.heap.size + 1 + 1 + 1, 0, none⟩)])).cell? ⟨w.heap.size + 1 + 1 + 1, 0, none⟩ = some (Value.func (.func 58) #[] #[.pointer (some ⟨w.heap.size + 1, 0, none⟩), .pointer (some ⟨w.heap.size, 0, none⟩), .pointer (some ⟨w.heap.size + 1 + 1, 0, none⟩), .pointer (some ⟨w.heap.size + 1 + 1 + 1, 0, none⟩)]) := fun n => (blk_cell (blk_set (k3 n) 0 (Value.func (.func 58) #[] #[.pointer (some ⟨w.heap.size + 1, 0, none⟩), .pointer (some ⟨w.heap.size, 0, none⟩), .pointer (some ⟨w.heap.size + 1 + 1, 0, none⟩), .pointer (some ⟨w.heap.size + 1 + 1 + 1, 0, none⟩)])) 0).trans rfl
   have KS := Aside0.mk (fun n => (blk_cell (blk_far (k0 n) (p := ⟨w.heap.size + 1 + 1 + 1, 0, none⟩) (by show w.heap.size ≠ w.heap.size + 1 + 1 + 1; omega) (Value.func (.func 58) #[] #[.pointer (some ⟨w.heap.size + 1, 0, none⟩), .pointer (some ⟨w.heap.size, 0, none⟩), .pointer (some ⟨w.heap.size + 1 + 1, 0, none⟩), .pointer (some ⟨w.heap.size + 1 + 1 + 1, 0, none⟩)])) 0).trans rfl : ∀ n, ((W n).setCell ⟨w.heap.size + 1 + 1 + 1, 0, none⟩ (Value.func (.func 58) #[] #[.pointer (some ⟨w.heap.size + 1, 0, none⟩), .pointer (some ⟨w.heap.size, 0, none⟩), .pointer (some ⟨w.heap.size + 1 + 1, 0, none⟩), .pointer (some ⟨w.heap.size + 1 + 1 + 1, 0, none⟩)])).cell? ⟨w.heap.size, 0, none⟩ = some (.int .i64 a0))
   have KM := Aside0.mk (fun n => (blk_cell (blk_far (k1 n) (p := ⟨w.heap.size + 1 + 1 + 1, 0, none⟩) (by show w.heap.size + 1 ≠ w.heap.size + 1 + 1 + 1; omega) (Value.func (.func 58) #[] #[.pointer (some ⟨w.heap.size + 1, 0, none⟩), .pointer (some ⟨w.heap.size, 0, none⟩), .pointer (some ⟨w.heap.size + 1 + 1, 0, none⟩), .pointer (some ⟨w.heap.size + 1 + 1 + 1, 0, none⟩)])) 0).trans rfl : ∀ n, ((W n).setCell ⟨w.heap.size + 1 + 1 + 1, 0, none⟩ (Value.func (.func 58) #[] #[.pointer (some ⟨w.heap.size + 1, 0, none⟩), .pointer (some ⟨w.heap.size, 0, none⟩), .pointer (some ⟨w.heap.size + 1 + 1, 0, none⟩), .pointer (some ⟨w.heap.size + 1 + 1 + 1, 0, none⟩)])).cell? ⟨w.heap.size + 1, 0, none⟩ = some (.int .i64 a1))
   have KD := Aside0.mk (fun n => (blk_cell (blk_far (k2 n) (p := ⟨w.heap.size + 1 + 1 + 1, 0, none⟩) (by show w.heap.size + 1 + 1 ≠ w.heap.size + 1 + 1 + 1; omega) (Value.func (.func 58) #[] #[.pointer (some ⟨w.heap.size + 1, 0, none⟩), .pointer (some ⟨w.heap.size, 0, none⟩), .pointer (some ⟨w.heap.size + 1 + 1, 0, none⟩), .pointer (some ⟨w.heap.size + 1 + 1 + 1, 0, none⟩)])) 0).trans rfl : ∀ n, ((W n).setCell ⟨w.heap.size + 1 + 1 + 1, 0, none⟩ (Value.func (.func 58) #[] #[.pointer (some ⟨w.heap.size + 1, 0, none⟩), .pointer (some ⟨w.heap.size, 0, none⟩), .pointer (some ⟨w.heap.size + 1 + 1, 0, none⟩), .pointer (some ⟨w.heap.size + 1 + 1 + 1, 0, none⟩)])).cell? ⟨w.heap.size + 1 + 1, 0, none⟩ = some (.int .i64 due))
   have KF := Aside0.mk hld
   have KB := Aside0.mk (fun n => (kb n).setCell (p := ⟨w.heap.size + 1 + 1 + 1, 0, none⟩) (by show w.heap.size ≤ w.heap.size + 1 + 1 + 1; omega) (Value.func (.func 58) #[] #[.pointer (some ⟨w.heap.size + 1, 0, none⟩), .pointer (some ⟨w.heap.size, 0, none⟩), .pointer (some ⟨w.heap.size + 1 + 1, 0, none⟩), .pointer (some ⟨w.heap.size + 1 + 1 + 1, 0, none⟩)]) : ∀ n, Below w.heap.size w ((W n).setCell ⟨w.heap.size + 1 + 1 + 1, 0, none⟩ (Value.func (.func 58) #[] #[.pointer (some ⟨w.heap.size + 1, 0, none⟩), .pointer (some ⟨w.heap.size, 0, none⟩), .pointer (some ⟨w.heap.size + 1 + 1, 0, none⟩), .pointer (some ⟨w.heap.size + 1 + 1 + 1, 0, none⟩)])))
   have HW := Aside0.mk hW
   clear k0 k1 k2 k3 kb hW
   have HST := Aside0.mk hst
   have qne := impl_BestStarts_ne
   go_enter Tryz.func21, Tryz.ntmps21
   cases o with
   | none =>
    go_wp2_with (first | (go_at_call 56; first | ((with_reducible refine (impl_in.calls a0 1 16 true _ B1.out).mono ?_); rintro e w' ⟨rfl, ⟨n1, rfl⟩⟩) | ((with_reducible refine (impl_in.calls a1 1 a0 true _ B2.out).mono ?_); rintro e w' ⟨rfl, ⟨n2, rfl⟩⟩)) | (go_at_call 57; (with_reducible refine (impl_leastTimeWith.calls k a0 a1 due _ B3.out).mono ?_); rintro e w' ⟨rfl, ⟨n3, rfl⟩⟩) | (rw [← HW.out, HST.out]) | (go_at_call 58; refine (impl_BestStarts_find.calls k a0 a1 due (w.heap.size + 1) w.heap.size (w.heap.size + 1 + 1) (w.heap.size + 1 + 1 + 1) w.heap.size _ [] 0 none _ HM1.out ?q2 ?q3 ?q4 ?q5 ?q6 ?q7 B4.out).mono ?_; (case q2 => exact pw_cell_below (below_alloc (Below.refl _ _) _) (KM.out _)); (case q3 => exact pw_cell_below (below_alloc (Below.refl _ _) _) (KS.out _)); (case q4 => exact pw_cell_below (below_alloc (Below.refl _ _) _) (KD.out _)); (case q5 => exact pw_cell_below (below_alloc (Below.refl _ _) _) (KF.out _)); (case q6 => exact below_size (below_alloc (KB.out _) _)); (case q7 => have he := impl_BestStarts_emp _ w.heap.size (below_size (KB.out (n1 + n2 + n3))); simpa using he); rintro e w' ⟨v3, rfl, hv3, hb⟩; obtain rfl := (show v3 = .slice none 0 0 from hv3); clear hv3; have HB1 := Aside0.mk (below_step (below_alloc (KB.out _) _) hb); clear hb HB; have HB := HB1; clear HB1))
    go_ret2
    exact ⟨_, rfl, Kd.R_nil _ _ _ _ _, HB.out⟩
   | some rr =>
    go_wp2_with (first | (go_at_call 56; first | ((with_reducible refine (impl_in.calls a0 1 16 true _ B1.out).mono ?_); rintro e w' ⟨rfl, ⟨n1, rfl⟩⟩) | ((with_reducible refine (impl_in.calls a1 1 a0 true _ B2.out).mono ?_); rintro e w' ⟨rfl, ⟨n2, rfl⟩⟩)) | (go_at_call 57; (with_reducible refine (impl_leastTimeWith.calls k a0 a1 due _ B3.out).mono ?_); rintro e w' ⟨rfl, ⟨n3, rfl⟩⟩) | (rw [← HW.out, HST.out]) | (go_at_call 58; refine (impl_BestStarts_find.calls k a0 a1 due (w.heap.size + 1) w.heap.size (w.heap.size + 1 + 1) (w.heap.size + 1 + 1 + 1) w.heap.size _ [] 0 (some rr) _ HM1.out ?q2 ?q3 ?q4 ?q5 ?q6 ?q7 B4.out).mono ?_; (case q2 => exact pw_cell_below (below_alloc (Below.refl _ _) _) (KM.out _)); (case q3 => exact pw_cell_below (below_alloc (Below.refl _ _) _) (KS.out _)); (case q4 => exact pw_cell_below (below_alloc (Below.refl _ _) _) (KD.out _)); (case q5 => exact pw_cell_below (below_alloc (Below.refl _ _) _) (KF.out _)); (case q6 => exact below_size (below_alloc (KB.out _) _)); (case q7 => have he := impl_BestStarts_emp _ w.heap.size (below_size (KB.out (n1 + n2 + n3))); simpa using he); rintro e w' ⟨v3, rfl, ⟨⟨ad3, n3', c3, rfl⟩, ho3⟩, hb⟩; have HO3 := Aside0.mk ho3; clear ho3; have HB1 := Aside0.mk (below_step (below_alloc (KB.out _) _) hb); clear hb HB; have HB := HB1; clear HB1))
    go_ret2
    exact ⟨_, rfl, HO3.out, HB.out⟩

/-! ### spec_l1Own: function 87 -/
def spec_l1Own.f (l0 : List Int) : Option (List Int) := (some (([] : List Int) : List Int)).bind fun y384 => (if y384.length + l0.length < 17592186044416 then (some (y384 ++ l0)) else (none))
set_option maxHeartbeats 8000000 in
set_option maxRecDepth 100000 in
theorem spec_l1Own.calls (A0 : Option Addr) (c0 : Nat) (l0 : List Int) (r : List Int) (w : World) (hr0 : Kd.C (Kd.int .i64) w A0 l0.length l0) (hc0 : l0.length ≤ c0) (h : spec_l1Own.f l0 = some r) :
  Calls Tryz.prog 87 #[.slice A0 l0.length c0] w fun e w' => ∃ v0_ : Value, e = .returned (v0_) ∧ Kd.R (Kd.int .i64) 3 w' w.heap.size (fun _ => True) v0_ r ∧ Below w.heap.size w w' := by
 have HR0 := Aside0.mk hr0
 have HC0 := Aside0.mk hc0
 clear hr0 hc0
 have HB := Aside0.mk (Below.refl w.heap.size w)
 unfold spec_l1Own.f at h
 have H := h
 clear h
 obtain ⟨y384, hy384⟩ : ∃ y_ : List Int, y_ = (([] : List Int)) := ⟨_, rfl⟩
 replace H : (if y384.length + l0.length < 17592186044416 then (some (y384 ++ l0)) else (none)) = some r := by first | (rw [hy384]; with_reducible exact H) | (have H2_ := (Option.bind_some _ _).symm.trans H; rw [hy384]; with_reducible exact H2_) | (have H2_ := (Option.bind_some _ _).symm.trans H; with_reducible exact H2_) | with_reducible exact H | (rw [hy384]; exact H) | exact H
 have Ny384 := Aside0.mk hy384
 clear hy384
 by_cases c2 : y384.length + l0.length < 17592186044416
 ·rw [if_pos c2] at H
  have LMc2 := Aside0.mk c2
  clear c2
  obtain ⟨y387, hy387⟩ : ∃ y_ : List Int, y_ = (y384 ++ l0) := ⟨_, rfl⟩
  replace H : (some y387) = some r := by first | (rw [hy387]; with_reducible exact H) | (have H2_ := (Option.bind_some _ _).symm.trans H; rw [hy387]; with_reducible exact H2_) | (have H2_ := (Option.bind_some _ _).symm.trans H; with_reducible exact H2_) | with_reducible exact H | (rw [hy387]; exact H) | exact H
  have Ny387 := Aside0.mk hy387
  clear hy387
  obtain rfl := Option.some.inj H
  go_enter Tryz.func87, Tryz.ntmps87
  go_wp2_with (first | ((with_reducible refine gate_dst (N := 3) rfl ?_); refine Kd.R_lit (Kd.int .i64) _ 3 ?hg (N := 3) ?hd (xs := ([] : List Int)) (inner := []) (ok := fun _ => True) (okp := fun _ => True) ?hr ?hp (fun _ hk => hk) trivial (Below.refl _ _) (Nat.le_refl _) (by simp) ?_; (case hd => rfl); (case hg => rfl); (case hr => first | (go_simp; done) | (go_simp; rfl)); (case hp => exact (Reps.none _ _)); intro v385 w3 ho4 hb hg_ hnew_; clear hg_ hnew_; (first | rw [← Ny384.out] at ho4 | (simp only [Int.reduceToNat] at ho4; rw [← Ny384.out] at ho4)); have HO386 := Aside0.mk (Kd.R_lower ho4 (below_size bw)); replace HB := bs hb; clear hb ho4) | ((with_reducible refine gate_builtin (b := .append) (xs := #[.tmp 3, .tmp 4]) rfl ?_); at_builtin; refine Kd.R_append_rows (Kd.int .i64) (w0 := w) w.heap.size rfl (.tmp 3) (.tmp 4) 27 3 (.int .i64 0) 8 rfl Tryz.underlying27 info3 rfl (by decide) (by omega) v385 y384 l0 _ _ _ (fun _ => True) (fun _ => False) rfl rfl ?aO ?aR (fun _ _ h => h) (fun _ h => h.elim) ?aF ?aB ?aS ?aL ?_; (case aR => exact cb HR0); (case aB => exact bw); (case aF => exact (fun _ _ => trivial)); (case aO => exact (pr HO386)); (case aS => exact (below_size bw)); (case aL => have := LMc2.out; omega); intro v388 w5 ho hb hg hat; rw [← Ny387.out] at ho; have n0_ := Aside0.mk (hb); have n1_ := Aside0.mk (ho); clear HB; clear HO386; have HB := n0_; have HO389 := n1_; clear n0_ n1_; clear ho hb hg hat))
  go_ret
  exact ⟨_, rs, pr HO389, bw⟩
 ·rw [if_neg c2] at H
  exact absurd H (by simp)

/-! ### spec_siLook: function 61 -/
mutual
def spec_siLook.j0 : Nat → Int → Int → Int → List Int → Int → Option (List Int × Bool)
  | 0, _, _, _, _, _ => none
  | k + 1, x0, x1, x2, x3, x12 => spec_siLook.l0 k x0 x1 x2 x3 x12
def spec_siLook.l0 : Nat → Int → Int → Int → List Int → Int → Option (List Int × Bool)
  | 0, _, _, _, _, _ => none
  | k + 1, x0, x1, x2, x3, x13 => if x13 < x0 then ((spec_l1Own.f x3).bind fun t395 => (if t395.length < 17592186044416 then ((spec_siLook.f k x0 x1 x2 (t395 ++ [x13])).bind fun bt401 => (if bt401.2 = true then (some (bt401.1, true)) else (spec_siLook.l0 k x0 x1 x2 x3 (wrap64 (x13 + 1))))) else (none))) else (some (([] : List Int), false))
def spec_siLook.f : Nat → Int → Int → Int → List Int → Option (List Int × Bool)
  | 0, _, _, _, _ => none
  | k + 1, a0, a1, a2, l3 => if (l3.length : Int) = a1 then ((spec_siSpread.f k a0 l3).bind fun bt390 => (some (l3, decide (bt390.2 ≤ a2)))) else (if (l3.length : Int) > 0 then (if 0 ≤ (wrap64 ((l3.length : Int) - 1)) then (if (wrap64 ((l3.length : Int) - 1)) < (l3.length : Int) then (spec_siLook.j0 k a0 a1 a2 l3 (wrap64 ((rd l3 (wrap64 ((l3.length : Int) - 1))) + 1))) else (none)) else (none)) else (spec_siLook.j0 k a0 a1 a2 l3 0))
end
theorem spec_siLook.mono_l : ∀ k, (∀ y0 y1 y2 y3, LeO (spec_siLook.f k y0 y1 y2 y3) (spec_siLook.f (k + 1) y0 y1 y2 y3)) ∧ (∀ y0 y1 y2 y3 y4, LeO (spec_siLook.j0 k y0 y1 y2 y3 y4) (spec_siLook.j0 (k + 1) y0 y1 y2 y3 y4)) ∧ (∀ y0 y1 y2 y3 y4, LeO (spec_siLook.l0 k y0 y1 y2 y3 y4) (spec_siLook.l0 (k + 1) y0 y1 y2 y3 y4))
  | 0 => ⟨fun _ _ _ _ r h => by simp [spec_siLook.f] at h, fun _ _ _ _ _ r h => by simp [spec_siLook.j0] at h, fun _ _ _ _ _ r h => by simp [spec_siLook.l0] at h⟩
  | k + 1 => by
    obtain ⟨ih0, ih1, ih2⟩ := spec_siLook.mono_l k
    refine ⟨?q0, ?q1, ?q2⟩
    case' q0 => (intros; unfold spec_siLook.f)
    case' q1 => (intros; unfold spec_siLook.j0)
    case' q2 => (intros; unfold spec_siLook.l0)
    all_goals repeat' first
     | (with_reducible exact ih0 _ _ _ _)
     | (with_reducible exact ih1 _ _ _ _ _)
     | (with_reducible exact ih2 _ _ _ _ _)
     | (with_reducible exact spec_siSpread.mono _ _ _)
     | (with_reducible exact LeO.refl _)
     | (with_reducible exact LeO.none _)
     | (with_reducible refine LeO.ite ?_ ?_)
     | (with_reducible refine LeO.bind ?_ (fun _ => ?_))
     | exact ih0 _ _ _ _
     | exact ih1 _ _ _ _ _
     | exact ih2 _ _ _ _ _
     | exact spec_siSpread.mono _ _ _
     | exact LeO.none _
     | refine LeO.ite ?_ ?_
     | refine LeO.bind ?_ (fun _ => ?_)
theorem spec_siLook.mono : ∀ a0 a1 a2 a3 k, LeO (spec_siLook.f k a0 a1 a2 a3) (spec_siLook.f (k + 1) a0 a1 a2 a3) := by
  intro a0 a1 a2 a3 k
  obtain ⟨ih0, ih1, ih2⟩ := spec_siLook.mono_l k
  exact ih0 a0 a1 a2 a3
set_option maxHeartbeats 8000000 in
set_option maxRecDepth 100000 in
theorem spec_siLook.calls (k : Nat) : ∀ (a0 : Int) (a1 : Int) (a2 : Int) (P3_ : Nat → Prop) (u9000_ : Value) (l3 : List Int) (r1 : List Int) (r2 : Bool) (w0 w : World) (hB : Below w0.heap.size w0 w) (ho3 : Kd.R (Kd.int .i64) 3 w w0.heap.size P3_ u9000_ l3) (h : spec_siLook.f k a0 a1 a2 l3 = some (r1, r2)),
  Calls Tryz.prog 61 #[.int .i64 a0, .int .i64 a1, .int .i64 a2, u9000_] w fun e w' => ∃ v0_ : Value, e = .returned (.tuple #[v0_, .bool r2]) ∧ Kd.R (Kd.int .i64) 3 w' w0.heap.size (fun k_ => (P3_ k_ ∨ w.heap.size ≤ k_)) v0_ r1 ∧ Below w0.heap.size w0 w' ∧ Kept w w' (fun k_ => P3_ k_) := by
 induction k using Nat.strongRecOn with
 | _ k ih =>
 intro a0 a1 a2 P3_ u9000_ l3 r1 r2 w0 w hB ho3 h
 cases k with
 | zero => exact absurd h (by simp [spec_siLook.f])
 | succ k =>
 simp only [spec_siLook.f] at h
 have HO3 := Aside0.mk (show Kd.R (Kd.int .i64) 3 w w0.heap.size (fun k_ => (P3_ k_ ∨ w.heap.size ≤ k_)) u9000_ l3 from Kd.R_mono ho3 (fun k_ hk => (.inl hk)))
 have HK := Aside0.mk (Kept.refl w (fun k_ => P3_ k_))
 have HW0 := Aside0.mk hB.size
 have HB := Aside0.mk hB
 clear hB
 have H := h
 clear h
 by_cases c5 : (l3.length : Int) = a1
 ·rw [if_pos c5] at H
  have c5b0 : ((l3.length : Int) == a1) = true := beq_iff_eq.mpr c5
  have c5b1 : ((l3.length : Int) != a1) = false := bne_eq_false_iff_eq.mpr c5
  clear c5
  replace H := Option.bind_eq_some_iff.mp H
  obtain ⟨⟨t390, t391⟩, A60, H⟩ := H
  (try dsimp only at H)
  have A6 := Aside0.mk A60
  clear A60
  simp only [Option.some.injEq, Prod.mk.injEq] at H
  obtain ⟨rfl, rfl⟩ := H
  obtain ⟨Ao7, co7, eo7⟩ := Kd.R_slice HO3.out
  subst eo7
  go_enter Tryz.func61, Tryz.ntmps61
  go_wp2_with (first | ((with_reducible refine gate_callee (f := 54) rfl ?_); refine gl (some 23) Tryz.func54 #[.int .i64 a0, .slice Ao7 l3.length co7] ?_; (with_reducible refine (spec_siSpread.calls k a0 _ _ l3 t390 t391 _ ?side1 ?side2 A6.out).mono ?_); (case side1 => exact rr HO3); (case side2 => exact rn HO3); rintro e w8 ⟨v392, rfl, ho0, hb⟩; refine ⟨_, rfl, ?_⟩; have HO393 := Aside0.mk (Kd.R_lower (Kd.R_new' (Kd.R_newM (M := fun k_ => (P3_ k_ ∨ w.heap.size ≤ k_)) ho0 (by first | exact HK.out.1 | exact (show Kept w _ (fun k_ => P3_ k_) from by repeat (first | (with_reducible first | exact HK.out | apply Kept.alloc | apply Kept.drewN | apply Kept.drew) | exact HK.out)).1) (fun k_ h_ => .inr h_)) (Kd.R_lt (pr HO3))) (below_size bw)); replace HO3 := re HO3 ho0 hb; replace HK := Aside0.mk (Kept.below (S := (fun k_ => P3_ k_)) (by repeat (first | (with_reducible first | exact HK.out | apply Kept.alloc | apply Kept.drewN | apply Kept.drew) | exact HK.out)) hb); replace HB := bs hb; (try clear hb); (try clear ho0)))
  go_ret2
  exact ⟨_, rs, by (with_reducible repeat (first | apply Kd.R_alloc | apply Kd.R_drewN | apply Kd.R_drew)); exact Kd.R_mono HO3.out (fun _ hk => hk.1), bw, by repeat (first | (with_reducible first | exact HK.out | apply Kept.alloc | apply Kept.drewN | apply Kept.drew) | exact HK.out)⟩
 ·rw [if_neg c5] at H
  have c5b0 : ((l3.length : Int) == a1) = false := beq_eq_false_iff_ne.mpr c5
  have c5b1 : ((l3.length : Int) != a1) = true := bne_iff_ne.mpr c5
  have HC9 := Aside0.mk H
  clear H
  obtain ⟨Ao10, co10, eo10⟩ := Kd.R_slice HO3.out
  subst eo10
  go_enter Tryz.func61, Tryz.ntmps61
  go_upto_if 32 with (fail)
  go_cut [12] (fun v12 wc => ∃ (kq : Nat) (x12_8 : Int), v12 = .int .i64 x12_8 ∧ Aside0 (spec_siLook.j0 kq a0 a1 a2 l3 x12_8 = some (r1, r2)) ∧ Aside0 (kq ≤ k) ∧ Aside0 (Kd.R (Kd.int .i64) 3 wc w0.heap.size (fun k_ => (P3_ k_ ∨ w.heap.size ≤ k_)) (.slice Ao10 l3.length co10) l3) ∧ Aside0 (Kept w wc (fun k_ => P3_ k_)) ∧ Aside0 (Below w0.heap.size w0 wc))
  case first =>
   have H := HC9.out
   clear HC9
   by_cases c11 : (l3.length : Int) > 0
   ·rw [if_pos c11] at H
    have c11b0 : decide (0 < (l3.length : Int)) = true := decide_eq_true c11
    have c11b1 : decide (0 < l3.length) = true := decide_eq_true (by omega)
    clear c11
    (first | rw [c11b0] | rw [@decide_eq_true _ _ (of_decide_eq_true c11b1)] | rw [@decide_eq_false _ _ (of_decide_eq_false c11b1)] | (simp only [i64_w, i32_w]; rw [c11b0]) | skip)
    obtain ⟨ji12, hji12⟩ : ∃ j_ : Int, (wrap64 ((l3.length : Int) - 1)) = j_ := ⟨_, rfl⟩
    replace H : (if 0 ≤ (ji12) then (if (ji12) < (l3.length : Int) then (spec_siLook.j0 k a0 a1 a2 l3 (wrap64 ((rd l3 (ji12)) + 1))) else (none)) else (none)) = some (r1, r2) := by first | (rw [hji12] at H; exact H) | (simp only [hji12] at H ⊢; exact H)
    have hji12w : (IntKind.i64.wrap ((l3.length : Int) - 1)) = ji12 := (i64_w _).trans hji12
    by_cases c13 : 0 ≤ (ji12)
    ·rw [if_pos c13] at H
     have c13b0 : decide (0 ≤ (ji12)) = true := decide_eq_true c13
     clear c13
     by_cases c14 : (ji12) < (l3.length : Int)
     ·rw [if_pos c14] at H
      have c14b0 : decide ((ji12) < (l3.length : Int)) = true := decide_eq_true c14
      clear c14
      have H' := Aside0.mk H
      clear H
      have p394 : 0 ≤ ((ji12) : Int) := of_decide_eq_true asm
      have q394 : (ji12) < (l3.length : Int) := of_decide_eq_true asm
      obtain ⟨ad394, e394, hx394_0⟩ := Kd.at_int (Kd.R_reads' HO3.out).2.2 (ji12) p394 q394
      cases e394
      replace p394 := eq_true p394
      replace q394 := eq_true q394
      go_wp2
      go_meet
      case rel => exact ⟨_, (wrap64 ((rd l3 (ji12)) + 1)), (by first | rfl | (simp; done) | (simp only [← hji12] <;> (first | rfl | simp)) | (simp [*]; done)), H', ⟨by first | omega | exact Nat.le_refl _⟩, ⟨pr HO3⟩, ⟨by repeat (first | (with_reducible first | exact HK.out | apply Kept.alloc | apply Kept.drewN | apply Kept.drew) | exact HK.out)⟩, ⟨bw⟩⟩
     ·rw [if_neg c14] at H
      exact absurd H (by simp)
    ·rw [if_neg c13] at H
     exact absurd H (by simp)
   ·rw [if_neg c11] at H
    have c11b0 : decide (0 < (l3.length : Int)) = false := decide_eq_false c11
    have c11b1 : decide (0 < l3.length) = false := decide_eq_false (by omega)
    clear c11
    (first | rw [c11b0] | rw [@decide_eq_true _ _ (of_decide_eq_true c11b1)] | rw [@decide_eq_false _ _ (of_decide_eq_false c11b1)] | (simp only [i64_w, i32_w]; rw [c11b0]) | skip)
    have H' := Aside0.mk H
    clear H
    go_wp2
    go_meet
    case rel => exact ⟨_, (0), (rs), H', ⟨by first | omega | exact Nat.le_refl _⟩, ⟨pr HO3⟩, ⟨by repeat (first | (with_reducible first | exact HK.out | apply Kept.alloc | apply Kept.drewN | apply Kept.drew) | exact HK.out)⟩, ⟨bw⟩⟩
  case rest =>
   clear HC9
   try clear c1
   try clear p2
   try clear p3
   try clear q3
   try clear hx3
   try clear c5
   try clear c5b0
   try clear c5b1
   try clear c6
   try clear p6
   try clear c11
   try clear c11b0
   try clear c11b1
   try clear c13
   try clear c13b0
   try clear c14
   try clear c14b0
   try clear hx394_0
   try clear p394
   try clear q394
   obtain ⟨kq, x12_8, rfl, HA, HJ8, HO_3, HK, HB⟩ := hcut
   cases kq with
   | zero => exact absurd HA.out (by simp [spec_siLook.j0])
   | succ kj8 =>
    have H := HA.out
    clear HA
    simp only [spec_siLook.j0] at H
    have H' := Aside0.mk H
    clear H
    go_wp2
    go_loopg [13] kj8 (fun kq v13 w' => ∃ (x13_2 : Int), v13 = .int .i64 x13_2 ∧ Aside0 (spec_siLook.l0 kq a0 a1 a2 l3 x13_2 = some (r1, r2)) ∧ Aside0 (kq ≤ kj8) ∧ Aside0 (Kd.R (Kd.int .i64) 3 w' w0.heap.size (fun k_ => (P3_ k_ ∨ w.heap.size ≤ k_)) (.slice Ao10 l3.length co10) l3) ∧ Aside0 (Kept w w' (fun k_ => P3_ k_)) ∧ Aside0 (Below w0.heap.size w0 w'))
    case atStart => exact ⟨(x12_8), (rs), H', ⟨Nat.le_refl _⟩, ⟨pr HO_3⟩, ⟨by repeat (first | (with_reducible first | exact HK.out | apply Kept.alloc | apply Kept.drewN | apply Kept.drew) | exact HK.out)⟩, ⟨bw⟩⟩
    case round =>
     clear H'
     try clear c1
     try clear p2
     try clear p3
     try clear q3
     try clear hx3
     try clear c5
     try clear c5b0
     try clear c5b1
     try clear c6
     try clear p6
     try clear c11
     try clear c11b0
     try clear c11b1
     try clear c13
     try clear c13b0
     try clear c14
     try clear c14b0
     try clear hx394_0
     try clear p2
     try clear p3
     try clear p394
     try clear p6
     try clear q3
     try clear q394
     obtain ⟨x13_2, rfl, HA, HK2, HO_3, HK, HB⟩ := hrel
     cases gk with
     | zero => exact absurd HA.out (by simp [spec_siLook.l0])
     | succ k2 =>
      have H := HA.out
      clear HA
      simp only [spec_siLook.l0] at H
      by_cases c15 : x13_2 < a0
      ·rw [if_pos c15] at H
       have c15b0 : decide (x13_2 < a0) = true := decide_eq_true c15
       clear c15
       replace H := Option.bind_eq_some_iff.mp H
       obtain ⟨t395, A160, H⟩ := H
       (try dsimp only at H)
       have A16 := Aside0.mk A160
       clear A160
       by_cases c17 : t395.length < 17592186044416
       ·rw [if_pos c17] at H
        have LMc17 := Aside0.mk c17
        clear c17
        obtain ⟨y398, hy398⟩ : ∃ y_ : List Int, y_ = (t395 ++ [x13_2]) := ⟨_, rfl⟩
        replace H : ((spec_siLook.f k2 a0 a1 a2 y398).bind fun bt401 => (if bt401.2 = true then (some (bt401.1, true)) else (spec_siLook.l0 k2 a0 a1 a2 l3 (wrap64 (x13_2 + 1))))) = some (r1, r2) := by first | (rw [hy398]; with_reducible exact H) | (have H2_ := (Option.bind_some _ _).symm.trans H; rw [hy398]; with_reducible exact H2_) | (have H2_ := (Option.bind_some _ _).symm.trans H; with_reducible exact H2_) | with_reducible exact H | (rw [hy398]; exact H) | exact H
        have Ny398 := Aside0.mk hy398
        clear hy398
        replace H := Option.bind_eq_some_iff.mp H
        obtain ⟨⟨t401, t404⟩, A180, H⟩ := H
        (try dsimp only at H)
        have A18 := Aside0.mk A180
        clear A180
        by_cases c19 : t404 = true
        ·subst c19
         rw [if_pos rfl] at H
         simp only [Option.some.injEq, Prod.mk.injEq] at H
         obtain ⟨rfl, rfl⟩ := H
         go_wp2_with (first | ((with_reducible refine gate_callee (f := 87) rfl ?_); refine gl (some 51) Tryz.func87 #[.slice Ao10 l3.length co10] ?_; (with_reducible refine (spec_l1Own.calls _ _ l3 t395 _ ?side1 ?side2 A16.out).mono ?_); (case side1 => exact rr HO_3); (case side2 => exact rn HO_3); rintro e w20 ⟨v396, rfl, ho0, hb⟩; refine ⟨_, rfl, ?_⟩; have HO397 := Aside0.mk (Kd.R_lower (Kd.R_new' (Kd.R_newM (M := fun k_ => (P3_ k_ ∨ w.heap.size ≤ k_)) ho0 (by first | exact HK.out.1 | exact (show Kept w _ (fun k_ => P3_ k_) from by repeat (first | (with_reducible first | exact HK.out | apply Kept.alloc | apply Kept.drewN | apply Kept.drew) | exact HK.out)).1) (fun k_ h_ => .inr h_)) (Kd.R_lt (pr HO_3))) (below_size bw)); replace HO_3 := re HO_3 ho0 hb; replace HK := Aside0.mk (Kept.below (S := (fun k_ => P3_ k_)) (by repeat (first | (with_reducible first | exact HK.out | apply Kept.alloc | apply Kept.drewN | apply Kept.drew) | exact HK.out)) hb); replace HB := bs hb; (try clear hb); (try clear ho0)) | ((with_reducible refine gate_builtin (b := .append) (xs := #[.tmp 51, .tmp 53]) rfl ?_); at_builtin; refine Kd.R_append (Kd.int .i64) (w0 := w0) w0.heap.size rfl (.tmp 51) (.tmp 53) 27 3 (.int .i64 0) 8 rfl Tryz.underlying27 info3 rfl (by decide) (by omega) v396 t395 x13_2 [.int .i64 x13_2] (fun k_ => (P3_ k_ ∨ w.heap.size ≤ k_) ∧ some k_ ≠ (.slice Ao10 l3.length co10 : Value).ownBlock) (fun _ => False) rfl rfl ?aP (fun _ hk => hk.elim) ?aF ?aO ?aB ?aS ?aL ?_; (case aP => exact rfl); (case aB => exact bw); (case aF => exact (fun k_ hk => ⟨(.inr (Nat.le_trans (by first | exact HK.out.1 | exact (show Kept w _ (fun k_ => P3_ k_) from by repeat (first | (with_reducible first | exact HK.out | apply Kept.alloc | apply Kept.drewN | apply Kept.drew) | exact HK.out)).1) hk)), Kd.fresh' (Kd.R_lt (pr HO_3)) k_ hk⟩)); (case aO => exact (by (with_reducible repeat (first | apply Kd.R_alloc | apply Kd.R_drewN | apply Kd.R_drew)); exact Kd.R_mono HO397.out (fun _ hk => ⟨hk.1.1, hk.2⟩))); (case aS => exact (below_size bw)); (case aL => have := LMc17.out; omega); intro v399 w21 ho hb hg hat; rw [← Ny398.out] at ho; have n0_ := Aside0.mk (Kd.R_after (ok := (fun k_ => (P3_ k_ ∨ w.heap.size ≤ k_))) (pr HO_3) hg hat); have n1_ := Aside0.mk (hb); have n2_ := Aside0.mk (Kept.of_grown (S := (fun k_ => P3_ k_)) hg (by repeat (first | (with_reducible first | exact HK.out | apply Kept.alloc | apply Kept.drewN | apply Kept.drew) | exact HK.out)) (fun k_ e_ => (HO397.out.1 k_ e_).1.1)); have n3_ := Aside0.mk (ho); clear HO_3; clear HB; clear HK; clear HO397; have HO_3 := n0_; have HB := n1_; have HK := n2_; have HO400 := n3_; clear n0_ n1_ n2_ n3_; clear ho hb hg hat; obtain ⟨Ao22, co22, eo22⟩ := Kd.R_slice HO400.out; subst eo22) | ((with_reducible refine gate_callee (f := 61) rfl ?_); refine gl (some 55) Tryz.func61 #[.int .i64 a0, .int .i64 a1, .int .i64 a2, .slice Ao22 y398.length co22] ?_; (with_reducible refine (ih k2 (by have := HJ8.out; have := HK2.out; omega) a0 a1 a2 (fun k_ => some k_ = (.slice Ao22 y398.length co22 : Value).ownBlock) (.slice Ao22 y398.length co22) y398 t401 true w0 _ ?side1 ?side2 A18.out).mono ?_); (case side1 => repeat (first | (with_reducible first | exact HB.out | apply below_alloc | apply pw_below_drewN | apply below_drew1) | exact HB.out)); (case side2 => exact Kd.R_tight rfl HO400.out); rintro e w23 ⟨v402, rfl, ho0, hb, hkp⟩; refine ⟨_, rfl, ?_⟩; have n0_ := Aside0.mk (Kd.R_mono (ok' := fun k_ => (P3_ k_ ∨ w.heap.size ≤ k_) ∧ some k_ ≠ (v402 : Value).ownBlock) (Kd.R_keptB (HO_3.out) hkp (fun k_ hk_ hs_ => (hk_.2) hs_)) (fun k_ hk_ => ⟨hk_.1.1, fun e_ => Or.elim (ho0.1 k_ e_.symm) (fun hs_ => hk_.2.1 hs_) (fun hn_ => Nat.not_le.2 hk_.2.2 hn_)⟩)); have n1_ := Aside0.mk (Kd.R_mono (ok' := fun k_ => (P3_ k_ ∨ w.heap.size ≤ k_) ∧ some k_ ≠ (.slice Ao10 l3.length co10 : Value).ownBlock) ho0 (fun k_ hk_ => ⟨Or.elim hk_ (fun hs_ => (HO400.out.1 k_ (hs_).symm).1) (fun hn_ => (.inr (Nat.le_trans (by first | exact HK.out.1 | exact (show Kept w _ (fun k_ => P3_ k_) from by repeat (first | (with_reducible first | exact HK.out | apply Kept.alloc | apply Kept.drewN | apply Kept.drew) | exact HK.out)).1) hn_))), Or.elim hk_ (fun hs_ => fun e_ => (((HO_3.out).1 k_ e_.symm).2) hs_) (fun hn_ => (Kd.fresh' (Kd.R_lt (pr HO_3)) k_ hn_))⟩)); have n2_ := Aside0.mk (Kept.then_ (S := (fun k_ => P3_ k_)) (by repeat (first | (with_reducible first | exact HK.out | apply Kept.alloc | apply Kept.drewN | apply Kept.drew) | exact HK.out)) hkp (fun k_ hs_ => (fun e_ => (HO400.out.1 k_ e_.symm).1) hs_)); have n3_ := Aside0.mk (hb); clear HO_3; clear HK; clear HB; clear HO400; have HO_3 := n0_; have HO403 := n1_; have HK := n2_; have HB := n3_; clear n0_ n1_ n2_ n3_; (try clear hb); (try clear hkp); (try clear ho0)))
         go_ret2
         exact ⟨_, rs, by (with_reducible repeat (first | apply Kd.R_alloc | apply Kd.R_drewN | apply Kd.R_drew)); exact Kd.R_mono HO403.out (fun _ hk => hk.1), bw, by repeat (first | (with_reducible first | exact HK.out | apply Kept.alloc | apply Kept.drewN | apply Kept.drew) | exact HK.out)⟩
        ·replace c19 := Bool.eq_false_iff.mpr c19
         subst c19
         rw [if_neg (show ¬ (false = true) by decide)] at H
         have H' := Aside0.mk H
         clear H
         go_wp2_with (first | ((with_reducible refine gate_callee (f := 87) rfl ?_); refine gl (some 51) Tryz.func87 #[.slice Ao10 l3.length co10] ?_; (with_reducible refine (spec_l1Own.calls _ _ l3 t395 _ ?side1 ?side2 A16.out).mono ?_); (case side1 => exact rr HO_3); (case side2 => exact rn HO_3); rintro e w24 ⟨v396, rfl, ho0, hb⟩; refine ⟨_, rfl, ?_⟩; have HO397 := Aside0.mk (Kd.R_lower (Kd.R_new' (Kd.R_newM (M := fun k_ => (P3_ k_ ∨ w.heap.size ≤ k_)) ho0 (by first | exact HK.out.1 | exact (show Kept w _ (fun k_ => P3_ k_) from by repeat (first | (with_reducible first | exact HK.out | apply Kept.alloc | apply Kept.drewN | apply Kept.drew) | exact HK.out)).1) (fun k_ h_ => .inr h_)) (Kd.R_lt (pr HO_3))) (below_size bw)); replace HO_3 := re HO_3 ho0 hb; replace HK := Aside0.mk (Kept.below (S := (fun k_ => P3_ k_)) (by repeat (first | (with_reducible first | exact HK.out | apply Kept.alloc | apply Kept.drewN | apply Kept.drew) | exact HK.out)) hb); replace HB := bs hb; (try clear hb); (try clear ho0)) | ((with_reducible refine gate_builtin (b := .append) (xs := #[.tmp 51, .tmp 53]) rfl ?_); at_builtin; refine Kd.R_append (Kd.int .i64) (w0 := w0) w0.heap.size rfl (.tmp 51) (.tmp 53) 27 3 (.int .i64 0) 8 rfl Tryz.underlying27 info3 rfl (by decide) (by omega) v396 t395 x13_2 [.int .i64 x13_2] (fun k_ => (P3_ k_ ∨ w.heap.size ≤ k_) ∧ some k_ ≠ (.slice Ao10 l3.length co10 : Value).ownBlock) (fun _ => False) rfl rfl ?aP (fun _ hk => hk.elim) ?aF ?aO ?aB ?aS ?aL ?_; (case aP => exact rfl); (case aB => exact bw); (case aF => exact (fun k_ hk => ⟨(.inr (Nat.le_trans (by first | exact HK.out.1 | exact (show Kept w _ (fun k_ => P3_ k_) from by repeat (first | (with_reducible first | exact HK.out | apply Kept.alloc | apply Kept.drewN | apply Kept.drew) | exact HK.out)).1) hk)), Kd.fresh' (Kd.R_lt (pr HO_3)) k_ hk⟩)); (case aO => exact (by (with_reducible repeat (first | apply Kd.R_alloc | apply Kd.R_drewN | apply Kd.R_drew)); exact Kd.R_mono HO397.out (fun _ hk => ⟨hk.1.1, hk.2⟩))); (case aS => exact (below_size bw)); (case aL => have := LMc17.out; omega); intro v399 w25 ho hb hg hat; rw [← Ny398.out] at ho; have n0_ := Aside0.mk (Kd.R_after (ok := (fun k_ => (P3_ k_ ∨ w.heap.size ≤ k_))) (pr HO_3) hg hat); have n1_ := Aside0.mk (hb); have n2_ := Aside0.mk (Kept.of_grown (S := (fun k_ => P3_ k_)) hg (by repeat (first | (with_reducible first | exact HK.out | apply Kept.alloc | apply Kept.drewN | apply Kept.drew) | exact HK.out)) (fun k_ e_ => (HO397.out.1 k_ e_).1.1)); have n3_ := Aside0.mk (ho); clear HO_3; clear HB; clear HK; clear HO397; have HO_3 := n0_; have HB := n1_; have HK := n2_; have HO400 := n3_; clear n0_ n1_ n2_ n3_; clear ho hb hg hat; obtain ⟨Ao26, co26, eo26⟩ := Kd.R_slice HO400.out; subst eo26) | ((with_reducible refine gate_callee (f := 61) rfl ?_); refine gl (some 55) Tryz.func61 #[.int .i64 a0, .int .i64 a1, .int .i64 a2, .slice Ao26 y398.length co26] ?_; (with_reducible refine (ih k2 (by have := HJ8.out; have := HK2.out; omega) a0 a1 a2 (fun k_ => some k_ = (.slice Ao26 y398.length co26 : Value).ownBlock) (.slice Ao26 y398.length co26) y398 t401 false w0 _ ?side1 ?side2 A18.out).mono ?_); (case side1 => repeat (first | (with_reducible first | exact HB.out | apply below_alloc | apply pw_below_drewN | apply below_drew1) | exact HB.out)); (case side2 => exact Kd.R_tight rfl HO400.out); rintro e w27 ⟨v402, rfl, ho0, hb, hkp⟩; refine ⟨_, rfl, ?_⟩; have n0_ := Aside0.mk (Kd.R_mono (ok' := fun k_ => (P3_ k_ ∨ w.heap.size ≤ k_) ∧ some k_ ≠ (v402 : Value).ownBlock) (Kd.R_keptB (HO_3.out) hkp (fun k_ hk_ hs_ => (hk_.2) hs_)) (fun k_ hk_ => ⟨hk_.1.1, fun e_ => Or.elim (ho0.1 k_ e_.symm) (fun hs_ => hk_.2.1 hs_) (fun hn_ => Nat.not_le.2 hk_.2.2 hn_)⟩)); have n1_ := Aside0.mk (Kd.R_mono (ok' := fun k_ => (P3_ k_ ∨ w.heap.size ≤ k_) ∧ some k_ ≠ (.slice Ao10 l3.length co10 : Value).ownBlock) ho0 (fun k_ hk_ => ⟨Or.elim hk_ (fun hs_ => (HO400.out.1 k_ (hs_).symm).1) (fun hn_ => (.inr (Nat.le_trans (by first | exact HK.out.1 | exact (show Kept w _ (fun k_ => P3_ k_) from by repeat (first | (with_reducible first | exact HK.out | apply Kept.alloc | apply Kept.drewN | apply Kept.drew) | exact HK.out)).1) hn_))), Or.elim hk_ (fun hs_ => fun e_ => (((HO_3.out).1 k_ e_.symm).2) hs_) (fun hn_ => (Kd.fresh' (Kd.R_lt (pr HO_3)) k_ hn_))⟩)); have n2_ := Aside0.mk (Kept.then_ (S := (fun k_ => P3_ k_)) (by repeat (first | (with_reducible first | exact HK.out | apply Kept.alloc | apply Kept.drewN | apply Kept.drew) | exact HK.out)) hkp (fun k_ hs_ => (fun e_ => (HO400.out.1 k_ e_.symm).1) hs_)); have n3_ := Aside0.mk (hb); clear HO_3; clear HK; clear HB; clear HO400; have HO_3 := n0_; have HO403 := n1_; have HK := n2_; have HB := n3_; clear n0_ n1_ n2_ n3_; (try clear hb); (try clear hkp); (try clear ho0)))
         go_roundg k2
         case measure => have := HJ8.out; have := HK2.out; omega
         case rel => exact ⟨(wrap64 (x13_2 + 1)), (rs), H', ⟨by have := HJ8.out; have := HK2.out; omega⟩, ⟨by (with_reducible repeat (first | apply Kd.R_alloc | apply Kd.R_drewN | apply Kd.R_drew)); exact Kd.R_mono HO_3.out (fun _ hk => hk.1)⟩, ⟨by repeat (first | (with_reducible first | exact HK.out | apply Kept.alloc | apply Kept.drewN | apply Kept.drew) | exact HK.out)⟩, ⟨bw⟩⟩
       ·rw [if_neg c17] at H
        exact absurd H (by simp)
      ·rw [if_neg c15] at H
       have c15b0 : decide (x13_2 < a0) = false := decide_eq_false c15
       clear c15
       simp only [Option.some.injEq, Prod.mk.injEq] at H
       obtain ⟨rfl, rfl⟩ := H
       go_wp2
       go_ret2
       exact ⟨_, rs, by first | exact Kd.R_nil _ _ _ _ _ | exact Kd.N_nil _ _ _ _ _ | exact Kd.V_nil _ _ _ _ _ | exact Kd.Q_nil _ _ _ _ _ | exact Kd.S_nil _ _ _ _ _, bw, by repeat (first | (with_reducible first | exact HK.out | apply Kept.alloc | apply Kept.drewN | apply Kept.drew) | exact HK.out)⟩

/-! ### spec_siLeast: function 62 -/
def spec_siLeast.l0 : Nat → Int → Int → Int → Option (Int)
  | 0, _, _, _ => none
  | k + 1, x0, x1, x5 => if (wrap64 (x1 * (wrap64 ((wrap64 (2 * x5)) + 1)))) < x0 then (spec_siLeast.l0 k x0 x1 (wrap64 (x5 + 1))) else (some x5)
def spec_siLeast.f (k : Nat) (a0 : Int) (a1 : Int) : Option (Int) := spec_siLeast.l0 k a0 a1 0
theorem spec_siLeast.mono_l : ∀ k, (∀ y0 y1 y2, LeO (spec_siLeast.l0 k y0 y1 y2) (spec_siLeast.l0 (k + 1) y0 y1 y2))
  | 0 => fun _ _ _ r h => by simp [spec_siLeast.l0] at h
  | k + 1 => by
    have ih0 := spec_siLeast.mono_l k
    · intro y0 y1 y2
      unfold spec_siLeast.l0
      repeat' first
      | (with_reducible exact ih0 _ _ _)
      | (with_reducible exact LeO.refl _)
      | (with_reducible exact LeO.none _)
      | (with_reducible refine LeO.ite ?_ ?_)
      | (with_reducible refine LeO.bind ?_ (fun _ => ?_))
      | exact ih0 _ _ _
      | exact LeO.none _
      | refine LeO.ite ?_ ?_
      | refine LeO.bind ?_ (fun _ => ?_)
theorem spec_siLeast.mono : ∀ a0 a1 k, LeO (spec_siLeast.f k a0 a1) (spec_siLeast.f (k + 1) a0 a1) := by
  intro a0 a1 k
  have ih0 := spec_siLeast.mono_l k
  unfold spec_siLeast.f
  repeat' first
      | (with_reducible exact ih0 _ _ _)
      | (with_reducible exact LeO.refl _)
      | (with_reducible exact LeO.none _)
      | (with_reducible refine LeO.ite ?_ ?_)
      | (with_reducible refine LeO.bind ?_ (fun _ => ?_))
      | exact ih0 _ _ _
      | exact LeO.none _
      | refine LeO.ite ?_ ?_
      | refine LeO.bind ?_ (fun _ => ?_)
set_option maxHeartbeats 8000000 in
set_option maxRecDepth 100000 in
theorem spec_siLeast.calls (k : Nat) (a0 : Int) (a1 : Int) (r : Int) (w : World) (h : spec_siLeast.f k a0 a1 = some r) :
  Calls Tryz.prog 62 #[.int .i64 a0, .int .i64 a1] w fun e w' => e = .returned (.int .i64 r) ∧ Drawn0 w w' := by
 unfold spec_siLeast.f at h
 have H := h
 clear h
 have H' := Aside0.mk H
 clear H
 go_enter Tryz.func62, Tryz.ntmps62
 go_wp2
 go_loopg [5] k (fun kq v5 w' => ∃ (x5_1 : Int), v5 = .int .i64 x5_1 ∧ Aside0 (spec_siLeast.l0 kq a0 a1 x5_1 = some r) ∧ Aside0 (kq ≤ k) ∧ Drawn0 w w')
 case atStart => exact ⟨(0), (rs), H', ⟨Nat.le_refl _⟩, by repeat (first | exact Drawn0.refl _ | apply Drawn0.step)⟩
 case round =>
  clear H'
  try clear p2
  obtain ⟨x5_1, rfl, HA, HK1, ⟨m1, rfl⟩⟩ := hrel
  cases gk with
  | zero => exact absurd HA.out (by simp [spec_siLeast.l0])
  | succ k1 =>
   have H := HA.out
   clear HA
   simp only [spec_siLeast.l0] at H
   by_cases c3 : (wrap64 (a1 * (wrap64 ((wrap64 (2 * x5_1)) + 1)))) < a0
   ·rw [if_pos c3] at H
    have c3b0 : decide ((wrap64 (a1 * (wrap64 ((wrap64 (2 * x5_1)) + 1)))) < a0) = true := decide_eq_true c3
    clear c3
    have H' := Aside0.mk H
    clear H
    go_wp2
    go_roundg k1
    case measure => have := HK1.out; omega
    case rel => exact ⟨(wrap64 (x5_1 + 1)), (rs), H', ⟨by have := HK1.out; omega⟩, by repeat (first | exact Drawn0.refl _ | apply Drawn0.step)⟩
   ·rw [if_neg c3] at H
    have c3b0 : decide ((wrap64 (a1 * (wrap64 ((wrap64 (2 * x5_1)) + 1)))) < a0) = false := decide_eq_false c3
    clear c3
    obtain rfl := Option.some.inj H
    go_wp2
    go_ret
    exact ⟨rs, by repeat (first | exact Drawn0.refl _ | apply Drawn0.step)⟩

end Go.Proofs.YtmhbcfdodcnjmaaGreatDoor.PFnSignalsReach
