import Derived.Test.YtefihklpegcmpaaGreatDoorPFnSignalsReachOfAllx0
import Derived.Test.YtefihklpegcmpaaGreatDoorPFnSignalsReachOfAllx1
import Derived.Test.YtefihklpegcmpaaGreatDoorPFnSignalsReachOfAllx3
import Derived.Test.YtefihklpegcmpaaGreatDoorPFnSignalsReachOfAllx4
import Derived.Test.YtefihklpegcmpaaGreatDoorPFnSignalsReachOfAllx5
import Derived.Test.YtefihklpegcmpaaGreatDoorPFnSignalsReachOfAllx6
import Derived.Test.YtefihklpegcmpaaGreatDoorPFnSignalsReachOfAllx7
import Derived.Test.YtefihklpegcmpaaGreatDoorPFnSignalsReachOfAllx8
import Derived.Test.YtefihklpegcmpaaGreatDoorPFnSignalsReachOfAllx10
import Derived.Test.YtefihklpegcmpaaGreatDoorPFnSignalsReachOfAllx11
import Derived.Test.YtefihklpegcmpaaGreatDoorPFnSignalsReachOfAllx12
import Derived.Test.YtefihklpegcmpaaGreatDoorPFnSignalsReachOfAllx13
import Derived.Test.YtefihklpegcmpaaGreatDoorPFnSignalsReachOfAllx14
import Derived.Test.YtefihklpegcmpaaGreatDoorPFnSignalsReachOfAllx15
-- Laid by xprint, a program of this session that runs over the kit's print.
namespace Go.Proofs.YtefihklpegcmpaaGreatDoor.PFnSignalsReachOfAll
open Go.RowKit Go.Proofs.YtefihklpegcmpaaGreatDoorW.PrintWords Go.Proofs.YtefihklpegcmpaaGreatDoorW.PrintLast Go.Proofs.YtefihklpegcmpaaGreatDoorW.PrintMore Go.Proofs.YtefihklpegcmpaaGreatDoor.Sq
attribute [local go_sem] max2_int min2_int max_two min_two max_three min_three max_four min_four   -- for this text's walks alone
set_option linter.unusedVariables false
set_option linter.unusedSimpArgs false

attribute [local go_sem high] eqA25
theorem nf_ {W0 W1 W2 : World} {g : Nat} {o : Obj} (_h : Aside0 (W0.heap[g]? = some o)) (hb : Below W1.heap.size W1 W2) (h : W1.heap[g]? = some o := by (with_reducible repeat (first | refine blk_drewN ?_ _ | refine blk_drew ?_ | refine blk_alloc ?_ _)); (repeat (refine blk_far ?_ (Aside0.out (by assumption)) _; (with_reducible repeat (first | refine blk_drewN ?_ _ | refine blk_drew ?_ | refine blk_alloc ?_ _)))); exact Aside0.out (by assumption)) : Aside0 (W2.heap[g]? = some o) := ⟨blk_below h hb⟩
theorem pf_ {W0 W : World} {g : Nat} {o : Obj} (_h : Aside0 (W0.heap[g]? = some o)) (h : W.heap[g]? = some o := by (with_reducible repeat (first | refine blk_drewN ?_ _ | refine blk_drew ?_ | refine blk_alloc ?_ _)); (repeat (refine blk_far ?_ (Aside0.out (by assumption)) _; (with_reducible repeat (first | refine blk_drewN ?_ _ | refine blk_drew ?_ | refine blk_alloc ?_ _)))); exact Aside0.out (by assumption)) : W.heap[g]? = some o := h
/-! ### laws_FnSignalsReachOfAll: its contract -/
set_option maxHeartbeats 80000000 in
set_option maxRecDepth 100000 in
theorem laws_FnSignalsReachOfAll.calls (k : Nat) (a0 : Int) (A1 : Option Addr) (c1 : Nat) (l1 : List (S25)) (a2 : Int) (a3 : Int) (A4 : Option Addr) (c4 : Nat) (l4 : List Int) (a5 : Int) (a6 : Int) (a7 : Int) (a8 : Int) (a9 : Int) (a10_0 : Int) (a10_1 : Bool) (a10_2 : Int) (a11 : ByteArray) (r : Bool) (w : World) (hm : Dr.Tab w) (hr1 : Kd.C k25 w A1 l1.length l1) (hc1 : l1.length ≤ c1) (hr4 : Kd.C (Kd.int .i64) w A4 l4.length l4) (hc4 : l4.length ≤ c4) (hrt : r = true) (h : laws_FnSignalsReachOfAll.f k a0 l1 a2 a3 l4 a5 a6 a7 a8 a9 a10_0 a10_1 a10_2 a11 = some r) :
  Calls Tryz.prog 3 #[.int .i64 a0, .slice A1 l1.length c1, .int .i64 a2, .int .i64 a3, .slice A4 l4.length c4, .int .i64 a5, .int .i64 a6, .int .i64 a7, .int .i64 a8, .int .i64 a9, .agg #[.int .i64 a10_0, .bool a10_1, .int .i64 a10_2], .string a11] w fun e w' => e = .returned (.bool r) ∧ Below w.heap.size w w' := by
 have hu25 := Tryz.underlying25
 have HR1 := Aside0.mk hr1
 have HC1 := Aside0.mk hc1
 clear hr1 hc1
 have HR4 := Aside0.mk hr4
 have HC4 := Aside0.mk hc4
 clear hr4 hc4
 have HB := Aside0.mk (Below.refl w.heap.size w)
 have HRT := Aside0.mk hrt
 clear hrt
 have HMM := Aside0.mk hm
 clear hm
 unfold laws_FnSignalsReachOfAll.f at h
 have H := h
 clear h
 have HC13 := Aside0.mk H
 clear H
 go_enter Tryz.func3, Tryz.ntmps3
 go_upto_region 1 with (first | ((with_reducible refine gate_dst (N := 22) rfl ?_); (try (refine gate_guard (by rfl) ?_; dsimp only)); refine bx 22 25 #[.int .i64 a10_0, .bool a10_1, .int .i64 a10_2] ?_; intro gb354 hg w14 hbox hb; have BK354 := hbox; have GW354 := gs hg; have GE354 := gs hg; replace HB := bs hb; clear hb hbox hg))
 repeat (go_quiet (first | ((with_reducible refine gate_dst (N := 22) rfl ?_); (try (refine gate_guard (by rfl) ?_; dsimp only)); refine bx 22 25 #[.int .i64 a10_0, .bool a10_1, .int .i64 a10_2] ?_; intro gb354 hg w14 hbox hb; have BK354 := hbox; have GW354 := gs hg; have GE354 := gs hg; replace HB := bs hb; clear hb hbox hg)); go_upto_region 1 with (first | ((with_reducible refine gate_dst (N := 22) rfl ?_); (try (refine gate_guard (by rfl) ?_; dsimp only)); refine bx 22 25 #[.int .i64 a10_0, .bool a10_1, .int .i64 a10_2] ?_; intro gb354 hg w14 hbox hb; have BK354 := hbox; have GW354 := gs hg; have GE354 := gs hg; replace HB := bs hb; clear hb hbox hg)))
 (try simp only [Act.put, List.setIfInBounds_toArray, List.set_cons_zero, List.set_cons_succ])
 go_cut [97] from 9999 (fun v97 wc => ∃ (kq : Nat) (x97_12 : Bool), v97 = .bool x97_12 ∧ Aside0 (laws_FnSignalsReachOfAll.j0 kq a0 l1 a2 a3 l4 a5 a6 a7 a8 a9 a11 x97_12 a10_0 a10_1 a10_2 = some r) ∧ Aside0 (kq ≤ k) ∧ Aside0 (wc.heap[gb354]? = some (.cells #[.int .i64 a10_0, .bool a10_1, .int .i64 a10_2] 25 (0, 0))) ∧ Aside0 (Below w.heap.size w wc))
 case first => as_aux_lemma =>
  have H := HC13.out
  clear HC13
  by_cases c15 : (l1.length : Int) > 10000
  ·rw [if_pos c15] at H
   have c15b0 : decide (10000 < (l1.length : Int)) = true := decide_eq_true c15
   have c15b1 : decide (10000 < l1.length) = true := decide_eq_true (by omega)
   clear c15
   (first | rw [c15b0] | rw [@decide_eq_true _ _ (of_decide_eq_true c15b1)] | rw [@decide_eq_false _ _ (of_decide_eq_false c15b1)] | (simp only [i64_w, i32_w]; rw [c15b0]) | skip)
   have H' := Aside0.mk H
   clear H
   go_wp2
   repeat (go_quiet (fail); try go_wp2)
   go_meet
   case rel => exact ⟨_, (true), (rs), H', ⟨by first | omega | exact Nat.le_refl _⟩, ⟨pk BK354⟩, ⟨bw⟩⟩
  ·rw [if_neg c15] at H
   have c15b0 : decide (10000 < (l1.length : Int)) = false := decide_eq_false c15
   have c15b1 : decide (10000 < l1.length) = false := decide_eq_false (by omega)
   clear c15
   (first | rw [c15b0] | rw [@decide_eq_true _ _ (of_decide_eq_true c15b1)] | rw [@decide_eq_false _ _ (of_decide_eq_false c15b1)] | (simp only [i64_w, i32_w]; rw [c15b0]) | skip)
   by_cases c16 : (l4.length : Int) > 10000
   ·rw [if_pos c16] at H
    have c16b0 : decide (10000 < (l4.length : Int)) = true := decide_eq_true c16
    have c16b1 : decide (10000 < l4.length) = true := decide_eq_true (by omega)
    clear c16
    have H' := Aside0.mk H
    clear H
    go_wp2
    repeat (go_quiet (fail); try go_wp2)
    go_meet
    case rel => exact ⟨_, (true), (rs), H', ⟨by first | omega | exact Nat.le_refl _⟩, ⟨pk BK354⟩, ⟨bw⟩⟩
   ·rw [if_neg c16] at H
    have c16b0 : decide (10000 < (l4.length : Int)) = false := decide_eq_false c16
    have c16b1 : decide (10000 < l4.length) = false := decide_eq_false (by omega)
    clear c16
    have H' := Aside0.mk H
    clear H
    go_wp2
    repeat (go_quiet (fail); try go_wp2)
    go_meet
    case rel => exact ⟨_, (decide ((a11.size : Int) > 1048576)), (rs), H', ⟨by first | omega | exact Nat.le_refl _⟩, ⟨pk BK354⟩, ⟨bw⟩⟩
 case rest =>
  clear HC13
  repeat (first|clear c1|clear p2|clear c3|clear c4|clear c15|clear c15b0|clear c15b1|clear c16|clear c16b0|clear c16b1)
  obtain ⟨kq, x97_12, rfl, HA, HJ12, BK354, HB⟩ := hcut
  cases kq with
  | zero => exact absurd HA.out (by simp [laws_FnSignalsReachOfAll.j0])
  | succ kj12 =>
   have H := HA.out
   clear HA
   simp only [laws_FnSignalsReachOfAll.j0] at H
   by_cases c17 : x97_12 = true
   ·subst c17
    rw [if_pos rfl] at H
    obtain rfl := Option.some.inj H
    go_wp2
    repeat (go_quiet (fail); try go_wp2)
    go_ret
    exact ⟨rs, bw⟩
   ·replace c17 := Bool.eq_false_iff.mpr c17
    subst c17
    rw [if_neg (show ¬ (false = true) by decide)] at H
    replace H := Option.bind_eq_some_iff.mp H
    obtain ⟨⟨t355, t356⟩, A180, H⟩ := H
    (try dsimp only at H)
    have A18 := Aside0.mk A180
    clear A180
    replace H := Option.bind_eq_some_iff.mp H
    obtain ⟨⟨t359, t360⟩, A190, H⟩ := H
    (try dsimp only at H)
    have A19 := Aside0.mk A190
    clear A190
    replace H := Option.bind_eq_some_iff.mp H
    obtain ⟨⟨t363, t364⟩, A200, H⟩ := H
    (try dsimp only at H)
    have A20 := Aside0.mk A200
    clear A200
    replace H := Option.bind_eq_some_iff.mp H
    obtain ⟨⟨t365, t366⟩, A210, H⟩ := H
    (try dsimp only at H)
    have A21 := Aside0.mk A210
    clear A210
    have HC22 := Aside0.mk H
    clear H
    go_upto_region 7 with (first | (go_at_call 4; (with_reducible refine (impl_HeardBy.calls kj12 a0 _ _ l1 a2 t355 t356 _ ?side1 ?side2 A18.out).mono ?_); (case side1 => exact cb HR1); (case side2 => exact HC1.out); rintro e w23 ⟨v357, rfl, ho0, hb⟩; have HO358 := Aside0.mk (Kd.R_lower ho0 (below_size bw)); replace BK354 := nk BK354 hb; replace HB := bs hb; (try clear hb); (try clear ho0)) | (go_at_call 5; (with_reducible refine (spec_HeardBy.calls kj12 a0 _ _ l1 a2 t359 t360 _ ?side1 ?side2 A19.out).mono ?_); (case side1 => exact cb HR1); (case side2 => exact HC1.out); rintro e w24 ⟨v361, rfl, ho0, hb⟩; have HO362 := Aside0.mk (Kd.R_lower (Kd.R_new' ho0 (Kd.R_lt (pr HO358))) (below_size bw)); replace HO358 := Aside0.mk (Kd.R_elder' (pr HO358) (Kd.R_base ho0) hb); replace BK354 := nk BK354 hb; replace HB := bs hb; (try clear hb); (try clear ho0)) | (go_at_call 6; (with_reducible refine (impl_TimeAllHear.calls kj12 a0 _ _ l1 t363 t364 _ ?side1 ?side2 A20.out).mono ?_); (case side1 => exact cb HR1); (case side2 => exact HC1.out); rintro e w25 ⟨rfl, hb⟩; replace HO358 := Aside0.mk (Kd.R_below (pr HO358) hb); replace HO362 := Aside0.mk (Kd.R_below (pr HO362) hb); replace BK354 := nk BK354 hb; replace HB := bs hb; (try clear hb)) | (go_at_call 7; (with_reducible refine (spec_TimeAllHear.calls kj12 a0 _ _ l1 t365 t366 _ ?side1 ?side2 A21.out).mono ?_); (case side1 => exact cb HR1); (case side2 => exact HC1.out); rintro e w26 ⟨rfl, hb⟩; replace HO358 := Aside0.mk (Kd.R_below (pr HO358) hb); replace HO362 := Aside0.mk (Kd.R_below (pr HO362) hb); replace BK354 := nk BK354 hb; replace HB := bs hb; (try clear hb)))
    repeat (go_quiet (first | (go_at_call 4; (with_reducible refine (impl_HeardBy.calls kj12 a0 _ _ l1 a2 t355 t356 _ ?side1 ?side2 A18.out).mono ?_); (case side1 => exact cb HR1); (case side2 => exact HC1.out); rintro e w23 ⟨v357, rfl, ho0, hb⟩; have HO358 := Aside0.mk (Kd.R_lower ho0 (below_size bw)); replace BK354 := nk BK354 hb; replace HB := bs hb; (try clear hb); (try clear ho0)) | (go_at_call 5; (with_reducible refine (spec_HeardBy.calls kj12 a0 _ _ l1 a2 t359 t360 _ ?side1 ?side2 A19.out).mono ?_); (case side1 => exact cb HR1); (case side2 => exact HC1.out); rintro e w24 ⟨v361, rfl, ho0, hb⟩; have HO362 := Aside0.mk (Kd.R_lower (Kd.R_new' ho0 (Kd.R_lt (pr HO358))) (below_size bw)); replace HO358 := Aside0.mk (Kd.R_elder' (pr HO358) (Kd.R_base ho0) hb); replace BK354 := nk BK354 hb; replace HB := bs hb; (try clear hb); (try clear ho0)) | (go_at_call 6; (with_reducible refine (impl_TimeAllHear.calls kj12 a0 _ _ l1 t363 t364 _ ?side1 ?side2 A20.out).mono ?_); (case side1 => exact cb HR1); (case side2 => exact HC1.out); rintro e w25 ⟨rfl, hb⟩; replace HO358 := Aside0.mk (Kd.R_below (pr HO358) hb); replace HO362 := Aside0.mk (Kd.R_below (pr HO362) hb); replace BK354 := nk BK354 hb; replace HB := bs hb; (try clear hb)) | (go_at_call 7; (with_reducible refine (spec_TimeAllHear.calls kj12 a0 _ _ l1 t365 t366 _ ?side1 ?side2 A21.out).mono ?_); (case side1 => exact cb HR1); (case side2 => exact HC1.out); rintro e w26 ⟨rfl, hb⟩; replace HO358 := Aside0.mk (Kd.R_below (pr HO358) hb); replace HO362 := Aside0.mk (Kd.R_below (pr HO362) hb); replace BK354 := nk BK354 hb; replace HB := bs hb; (try clear hb))); go_upto_region 7 with (first | (go_at_call 4; (with_reducible refine (impl_HeardBy.calls kj12 a0 _ _ l1 a2 t355 t356 _ ?side1 ?side2 A18.out).mono ?_); (case side1 => exact cb HR1); (case side2 => exact HC1.out); rintro e w23 ⟨v357, rfl, ho0, hb⟩; have HO358 := Aside0.mk (Kd.R_lower ho0 (below_size bw)); replace BK354 := nk BK354 hb; replace HB := bs hb; (try clear hb); (try clear ho0)) | (go_at_call 5; (with_reducible refine (spec_HeardBy.calls kj12 a0 _ _ l1 a2 t359 t360 _ ?side1 ?side2 A19.out).mono ?_); (case side1 => exact cb HR1); (case side2 => exact HC1.out); rintro e w24 ⟨v361, rfl, ho0, hb⟩; have HO362 := Aside0.mk (Kd.R_lower (Kd.R_new' ho0 (Kd.R_lt (pr HO358))) (below_size bw)); replace HO358 := Aside0.mk (Kd.R_elder' (pr HO358) (Kd.R_base ho0) hb); replace BK354 := nk BK354 hb; replace HB := bs hb; (try clear hb); (try clear ho0)) | (go_at_call 6; (with_reducible refine (impl_TimeAllHear.calls kj12 a0 _ _ l1 t363 t364 _ ?side1 ?side2 A20.out).mono ?_); (case side1 => exact cb HR1); (case side2 => exact HC1.out); rintro e w25 ⟨rfl, hb⟩; replace HO358 := Aside0.mk (Kd.R_below (pr HO358) hb); replace HO362 := Aside0.mk (Kd.R_below (pr HO362) hb); replace BK354 := nk BK354 hb; replace HB := bs hb; (try clear hb)) | (go_at_call 7; (with_reducible refine (spec_TimeAllHear.calls kj12 a0 _ _ l1 t365 t366 _ ?side1 ?side2 A21.out).mono ?_); (case side1 => exact cb HR1); (case side2 => exact HC1.out); rintro e w26 ⟨rfl, hb⟩; replace HO358 := Aside0.mk (Kd.R_below (pr HO358) hb); replace HO362 := Aside0.mk (Kd.R_below (pr HO362) hb); replace BK354 := nk BK354 hb; replace HB := bs hb; (try clear hb))))
    (try simp only [Act.put, List.setIfInBounds_toArray, List.set_cons_zero, List.set_cons_succ])
    go_cut [87, 88, 91, 92, 93, 96, 97, 104, 110, 111, 112, 113, 114, 115, 116, 117, 118, 119, 120, 121, 122, 123, 167] from 9999 (fun _ _ _ _ _ _ _ _ _ _ _ _ _ _ _ _ _ _ _ _ _ _ v167 wc => ∃ (kq : Nat) (x167_21 : Bool), v167 = .bool x167_21 ∧ Aside0 (laws_FnSignalsReachOfAll.j1 kq a0 l1 a2 a3 l4 a5 a6 a7 a8 a9 a11 t355 t356 t363 x167_21 a10_0 a10_1 a10_2 = some r) ∧ Aside0 (kq ≤ kj12) ∧ Aside0 (Kd.R (Kd.int .i64) 3 wc w.heap.size (fun _ => True) v357 t355) ∧ Aside0 (wc.heap[gb354]? = some (.cells #[.int .i64 a10_0, .bool a10_1, .int .i64 a10_2] 25 (0, 0))) ∧ Aside0 (Below w.heap.size w wc))
    case first => as_aux_lemma =>
     have H := HC22.out
     clear HC22
     by_cases c27 : (t356 != t360) = true
     ·rw [if_pos c27] at H
      exact absurd (Option.some.inj H) (by rw [HRT.out]; decide)
     ·rw [if_neg c27] at H
      have c27b0 : (t356 != t360) = false := by simpa using c27
      (try (have c27b1 : decide (t356 = t360) = true := by simpa using c27))
      (try (have c27b2 : (t356 == t360) = true := by simpa using c27))
      clear c27
      (first | rw [c27b0] | rw [@decide_eq_true _ _ (of_decide_eq_true c27b1)] | rw [@decide_eq_false _ _ (of_decide_eq_false c27b1)] | (simp only [i64_w, i32_w]; rw [c27b0]) | skip)
      replace H := Option.bind_eq_some_iff.mp H
      obtain ⟨t367, A280, H⟩ := H
      (try dsimp only at H)
      have A28 := Aside0.mk A280
      clear A280
      by_cases c29 : t367 = true
      ·subst c29
       rw [if_pos rfl] at H
       by_cases c30 : (t364 != t366) = true
       ·rw [if_pos c30] at H
        exact absurd (Option.some.inj H) (by rw [HRT.out]; decide)
       ·rw [if_neg c30] at H
        have c30b0 : (t364 != t366) = false := by simpa using c30
        (try (have c30b1 : decide (t364 = t366) = true := by simpa using c30))
        (try (have c30b2 : (t364 == t366) = true := by simpa using c30))
        clear c30
        by_cases c31 : t363 = t365
        ·rw [if_pos c31] at H
         have c31b0 : (t363 == t365) = true := beq_iff_eq.mpr c31
         have c31b1 : (t363 != t365) = false := bne_eq_false_iff_eq.mpr c31
         clear c31
         replace H := Option.bind_eq_some_iff.mp H
         obtain ⟨t368, A320, H⟩ := H
         (try dsimp only at H)
         have A32 := Aside0.mk A320
         clear A320
         replace H := Option.bind_eq_some_iff.mp H
         obtain ⟨t369, A330, H⟩ := H
         (try dsimp only at H)
         have A33 := Aside0.mk A330
         clear A330
         by_cases c34 : (t368 != t369) = true
         ·rw [if_pos c34] at H
          exact absurd (Option.some.inj H) (by rw [HRT.out]; decide)
         ·rw [if_neg c34] at H
          have c34b0 : (t368 != t369) = false := by simpa using c34
          (try (have c34b1 : decide (t368 = t369) = true := by simpa using c34))
          (try (have c34b2 : (t368 == t369) = true := by simpa using c34))
          clear c34
          by_cases c35 : t356 = true
          ·subst c35
           rw [if_pos rfl] at H
           by_cases c36 : t364 = true
           ·subst c36
            rw [if_pos rfl] at H
            replace H := Option.bind_eq_some_iff.mp H
            obtain ⟨t370, A370, H⟩ := H
            (try dsimp only at H)
            have A37 := Aside0.mk A370
            have e_ := Aside0.mk (Option.some.inj (A32.out.symm.trans A37.out))
            clear A370
            have H' := Aside0.mk H
            clear H
            obtain ⟨Ao38, co38, eo38⟩ := Kd.R_slice HO358.out
            subst eo38
            obtain ⟨Ao39, co39, eo39⟩ := Kd.R_slice HO362.out
            subst eo39
            go_wp2_with (first | (go_at_call 8; (with_reducible refine (laws_vSame.calls kj12 _ _ t355 _ _ t359 true _ ?side1 ?side2 ?side3 ?side4 A28.out).mono ?_); (case side1 => repeat (first | exact (Kd.R_reads' HO358.out).2.2 | (with_reducible refine Kd.C_alloc ?_ _) | (with_reducible refine Kd.C_drewN ?_ _) | (with_reducible refine Kd.C_drew ?_))); (case side2 => exact (Kd.R_reads' HO358.out).2.1); (case side3 => repeat (first | exact (Kd.R_reads' HO362.out).2.2 | (with_reducible refine Kd.C_alloc ?_ _) | (with_reducible refine Kd.C_drewN ?_ _) | (with_reducible refine Kd.C_drew ?_))); (case side4 => exact (Kd.R_reads' HO362.out).2.1); rintro e w' ⟨rfl, ⟨nd, rfl⟩⟩; (try first | exact ⟨rfl, _, World.drewN_drewN _ _ _⟩ | exact ⟨rfl, _, Eq.trans (World.drewN_drewN _ _ _) (congrArg (World.drewN _) (Nat.add_assoc _ _ _))⟩)) | (go_at_call 9; (with_reducible refine (impl_AreSignals.calls kj12 a0 _ _ l1 t368 _ ?side1 ?side2 A32.out).mono ?_); (case side1 => repeat (first | exact (Kd.C_below HR1.out bw) | (with_reducible refine Kd.C_alloc ?_ _) | (with_reducible refine Kd.C_drewN ?_ _) | (with_reducible refine Kd.C_drew ?_))); (case side2 => exact HC1.out); rintro e w40 ⟨rfl, hb⟩; replace HO358 := Aside0.mk (Kd.R_below (pr HO358) hb); replace HO362 := Aside0.mk (Kd.R_below (pr HO362) hb); replace BK354 := nk BK354 hb; replace HB := bs hb; (try clear hb)) | (go_at_call 10; (with_reducible refine (spec_AreSignals.calls kj12 a0 _ _ l1 t369 _ ?side1 ?side2 A33.out).mono ?_); (case side1 => exact cb HR1); (case side2 => exact HC1.out); rintro e w41 ⟨rfl, hb⟩; replace HO358 := Aside0.mk (Kd.R_below (pr HO358) hb); replace HO362 := Aside0.mk (Kd.R_below (pr HO362) hb); replace BK354 := nk BK354 hb; replace HB := bs hb; (try clear hb)) | (go_at_call 9; (with_reducible refine (impl_AreSignals.calls kj12 a0 _ _ l1 t370 _ ?side1 ?side2 A37.out).mono ?_); (case side1 => exact cb HR1); (case side2 => exact HC1.out); rintro e w42 ⟨rfl, hb⟩; replace HO358 := Aside0.mk (Kd.R_below (pr HO358) hb); replace HO362 := Aside0.mk (Kd.R_below (pr HO362) hb); replace BK354 := nk BK354 hb; replace HB := bs hb; (try clear hb)))
            repeat (go_quiet (first | (go_at_call 8; (with_reducible refine (laws_vSame.calls kj12 _ _ t355 _ _ t359 true _ ?side1 ?side2 ?side3 ?side4 A28.out).mono ?_); (case side1 => repeat (first | exact (Kd.R_reads' HO358.out).2.2 | (with_reducible refine Kd.C_alloc ?_ _) | (with_reducible refine Kd.C_drewN ?_ _) | (with_reducible refine Kd.C_drew ?_))); (case side2 => exact (Kd.R_reads' HO358.out).2.1); (case side3 => repeat (first | exact (Kd.R_reads' HO362.out).2.2 | (with_reducible refine Kd.C_alloc ?_ _) | (with_reducible refine Kd.C_drewN ?_ _) | (with_reducible refine Kd.C_drew ?_))); (case side4 => exact (Kd.R_reads' HO362.out).2.1); rintro e w' ⟨rfl, ⟨nd, rfl⟩⟩; (try first | exact ⟨rfl, _, World.drewN_drewN _ _ _⟩ | exact ⟨rfl, _, Eq.trans (World.drewN_drewN _ _ _) (congrArg (World.drewN _) (Nat.add_assoc _ _ _))⟩)) | (go_at_call 9; (with_reducible refine (impl_AreSignals.calls kj12 a0 _ _ l1 t368 _ ?side1 ?side2 A32.out).mono ?_); (case side1 => repeat (first | exact (Kd.C_below HR1.out bw) | (with_reducible refine Kd.C_alloc ?_ _) | (with_reducible refine Kd.C_drewN ?_ _) | (with_reducible refine Kd.C_drew ?_))); (case side2 => exact HC1.out); rintro e w40 ⟨rfl, hb⟩; replace HO358 := Aside0.mk (Kd.R_below (pr HO358) hb); replace HO362 := Aside0.mk (Kd.R_below (pr HO362) hb); replace BK354 := nk BK354 hb; replace HB := bs hb; (try clear hb)) | (go_at_call 10; (with_reducible refine (spec_AreSignals.calls kj12 a0 _ _ l1 t369 _ ?side1 ?side2 A33.out).mono ?_); (case side1 => exact cb HR1); (case side2 => exact HC1.out); rintro e w41 ⟨rfl, hb⟩; replace HO358 := Aside0.mk (Kd.R_below (pr HO358) hb); replace HO362 := Aside0.mk (Kd.R_below (pr HO362) hb); replace BK354 := nk BK354 hb; replace HB := bs hb; (try clear hb)) | (go_at_call 9; (with_reducible refine (impl_AreSignals.calls kj12 a0 _ _ l1 t370 _ ?side1 ?side2 A37.out).mono ?_); (case side1 => exact cb HR1); (case side2 => exact HC1.out); rintro e w42 ⟨rfl, hb⟩; replace HO358 := Aside0.mk (Kd.R_below (pr HO358) hb); replace HO362 := Aside0.mk (Kd.R_below (pr HO362) hb); replace BK354 := nk BK354 hb; replace HB := bs hb; (try clear hb))); try go_wp2_with (first | (go_at_call 8; (with_reducible refine (laws_vSame.calls kj12 _ _ t355 _ _ t359 true _ ?side1 ?side2 ?side3 ?side4 A28.out).mono ?_); (case side1 => repeat (first | exact (Kd.R_reads' HO358.out).2.2 | (with_reducible refine Kd.C_alloc ?_ _) | (with_reducible refine Kd.C_drewN ?_ _) | (with_reducible refine Kd.C_drew ?_))); (case side2 => exact (Kd.R_reads' HO358.out).2.1); (case side3 => repeat (first | exact (Kd.R_reads' HO362.out).2.2 | (with_reducible refine Kd.C_alloc ?_ _) | (with_reducible refine Kd.C_drewN ?_ _) | (with_reducible refine Kd.C_drew ?_))); (case side4 => exact (Kd.R_reads' HO362.out).2.1); rintro e w' ⟨rfl, ⟨nd, rfl⟩⟩; (try first | exact ⟨rfl, _, World.drewN_drewN _ _ _⟩ | exact ⟨rfl, _, Eq.trans (World.drewN_drewN _ _ _) (congrArg (World.drewN _) (Nat.add_assoc _ _ _))⟩)) | (go_at_call 9; (with_reducible refine (impl_AreSignals.calls kj12 a0 _ _ l1 t368 _ ?side1 ?side2 A32.out).mono ?_); (case side1 => repeat (first | exact (Kd.C_below HR1.out bw) | (with_reducible refine Kd.C_alloc ?_ _) | (with_reducible refine Kd.C_drewN ?_ _) | (with_reducible refine Kd.C_drew ?_))); (case side2 => exact HC1.out); rintro e w40 ⟨rfl, hb⟩; replace HO358 := Aside0.mk (Kd.R_below (pr HO358) hb); replace HO362 := Aside0.mk (Kd.R_below (pr HO362) hb); replace BK354 := nk BK354 hb; replace HB := bs hb; (try clear hb)) | (go_at_call 10; (with_reducible refine (spec_AreSignals.calls kj12 a0 _ _ l1 t369 _ ?side1 ?side2 A33.out).mono ?_); (case side1 => exact cb HR1); (case side2 => exact HC1.out); rintro e w41 ⟨rfl, hb⟩; replace HO358 := Aside0.mk (Kd.R_below (pr HO358) hb); replace HO362 := Aside0.mk (Kd.R_below (pr HO362) hb); replace BK354 := nk BK354 hb; replace HB := bs hb; (try clear hb)) | (go_at_call 9; (with_reducible refine (impl_AreSignals.calls kj12 a0 _ _ l1 t370 _ ?side1 ?side2 A37.out).mono ?_); (case side1 => exact cb HR1); (case side2 => exact HC1.out); rintro e w42 ⟨rfl, hb⟩; replace HO358 := Aside0.mk (Kd.R_below (pr HO358) hb); replace HO362 := Aside0.mk (Kd.R_below (pr HO362) hb); replace BK354 := nk BK354 hb; replace HB := bs hb; (try clear hb))))
            go_meet
            case rel => exact ⟨_, (!t370), (by first | (rw [e_.out]) | (simp [e_.out]; done) | exact (rs)), H', ⟨by have := HJ12.out; first | omega | exact Nat.le_refl _⟩, ⟨by (with_reducible repeat (first | apply Kd.R_alloc | apply Kd.R_drewN | apply Kd.R_drew)); exact Kd.R_mono HO358.out (fun _ hk => trivial)⟩, ⟨pk BK354⟩, ⟨bw⟩⟩
           ·replace c36 := Bool.eq_false_iff.mpr c36
            subst c36
            rw [if_neg (show ¬ (false = true) by decide)] at H
            exact absurd (Option.some.inj H) (by rw [HRT.out]; decide)
          ·replace c35 := Bool.eq_false_iff.mpr c35
           subst c35
           rw [if_neg (show ¬ (false = true) by decide)] at H
           by_cases c43 : t364 = true
           ·subst c43
            rw [if_pos rfl] at H
            replace H := Option.bind_eq_some_iff.mp H
            obtain ⟨t371, A440, H⟩ := H
            (try dsimp only at H)
            have A44 := Aside0.mk A440
            have e_ := Aside0.mk (Option.some.inj (A32.out.symm.trans A44.out))
            clear A440
            have H' := Aside0.mk H
            clear H
            obtain ⟨Ao45, co45, eo45⟩ := Kd.R_slice HO358.out
            subst eo45
            obtain ⟨Ao46, co46, eo46⟩ := Kd.R_slice HO362.out
            subst eo46
            go_wp2_with (first | (go_at_call 8; (with_reducible refine (laws_vSame.calls kj12 _ _ t355 _ _ t359 true _ ?side1 ?side2 ?side3 ?side4 A28.out).mono ?_); (case side1 => repeat (first | exact (Kd.R_reads' HO358.out).2.2 | (with_reducible refine Kd.C_alloc ?_ _) | (with_reducible refine Kd.C_drewN ?_ _) | (with_reducible refine Kd.C_drew ?_))); (case side2 => exact (Kd.R_reads' HO358.out).2.1); (case side3 => repeat (first | exact (Kd.R_reads' HO362.out).2.2 | (with_reducible refine Kd.C_alloc ?_ _) | (with_reducible refine Kd.C_drewN ?_ _) | (with_reducible refine Kd.C_drew ?_))); (case side4 => exact (Kd.R_reads' HO362.out).2.1); rintro e w' ⟨rfl, ⟨nd, rfl⟩⟩; (try first | exact ⟨rfl, _, World.drewN_drewN _ _ _⟩ | exact ⟨rfl, _, Eq.trans (World.drewN_drewN _ _ _) (congrArg (World.drewN _) (Nat.add_assoc _ _ _))⟩)) | (go_at_call 9; (with_reducible refine (impl_AreSignals.calls kj12 a0 _ _ l1 t368 _ ?side1 ?side2 A32.out).mono ?_); (case side1 => repeat (first | exact (Kd.C_below HR1.out bw) | (with_reducible refine Kd.C_alloc ?_ _) | (with_reducible refine Kd.C_drewN ?_ _) | (with_reducible refine Kd.C_drew ?_))); (case side2 => exact HC1.out); rintro e w47 ⟨rfl, hb⟩; replace HO358 := Aside0.mk (Kd.R_below (pr HO358) hb); replace HO362 := Aside0.mk (Kd.R_below (pr HO362) hb); replace BK354 := nk BK354 hb; replace HB := bs hb; (try clear hb)) | (go_at_call 10; (with_reducible refine (spec_AreSignals.calls kj12 a0 _ _ l1 t369 _ ?side1 ?side2 A33.out).mono ?_); (case side1 => exact cb HR1); (case side2 => exact HC1.out); rintro e w48 ⟨rfl, hb⟩; replace HO358 := Aside0.mk (Kd.R_below (pr HO358) hb); replace HO362 := Aside0.mk (Kd.R_below (pr HO362) hb); replace BK354 := nk BK354 hb; replace HB := bs hb; (try clear hb)) | (go_at_call 9; (with_reducible refine (impl_AreSignals.calls kj12 a0 _ _ l1 t371 _ ?side1 ?side2 A44.out).mono ?_); (case side1 => exact cb HR1); (case side2 => exact HC1.out); rintro e w49 ⟨rfl, hb⟩; replace HO358 := Aside0.mk (Kd.R_below (pr HO358) hb); replace HO362 := Aside0.mk (Kd.R_below (pr HO362) hb); replace BK354 := nk BK354 hb; replace HB := bs hb; (try clear hb)))
            repeat (go_quiet (first | (go_at_call 8; (with_reducible refine (laws_vSame.calls kj12 _ _ t355 _ _ t359 true _ ?side1 ?side2 ?side3 ?side4 A28.out).mono ?_); (case side1 => repeat (first | exact (Kd.R_reads' HO358.out).2.2 | (with_reducible refine Kd.C_alloc ?_ _) | (with_reducible refine Kd.C_drewN ?_ _) | (with_reducible refine Kd.C_drew ?_))); (case side2 => exact (Kd.R_reads' HO358.out).2.1); (case side3 => repeat (first | exact (Kd.R_reads' HO362.out).2.2 | (with_reducible refine Kd.C_alloc ?_ _) | (with_reducible refine Kd.C_drewN ?_ _) | (with_reducible refine Kd.C_drew ?_))); (case side4 => exact (Kd.R_reads' HO362.out).2.1); rintro e w' ⟨rfl, ⟨nd, rfl⟩⟩; (try first | exact ⟨rfl, _, World.drewN_drewN _ _ _⟩ | exact ⟨rfl, _, Eq.trans (World.drewN_drewN _ _ _) (congrArg (World.drewN _) (Nat.add_assoc _ _ _))⟩)) | (go_at_call 9; (with_reducible refine (impl_AreSignals.calls kj12 a0 _ _ l1 t368 _ ?side1 ?side2 A32.out).mono ?_); (case side1 => repeat (first | exact (Kd.C_below HR1.out bw) | (with_reducible refine Kd.C_alloc ?_ _) | (with_reducible refine Kd.C_drewN ?_ _) | (with_reducible refine Kd.C_drew ?_))); (case side2 => exact HC1.out); rintro e w47 ⟨rfl, hb⟩; replace HO358 := Aside0.mk (Kd.R_below (pr HO358) hb); replace HO362 := Aside0.mk (Kd.R_below (pr HO362) hb); replace BK354 := nk BK354 hb; replace HB := bs hb; (try clear hb)) | (go_at_call 10; (with_reducible refine (spec_AreSignals.calls kj12 a0 _ _ l1 t369 _ ?side1 ?side2 A33.out).mono ?_); (case side1 => exact cb HR1); (case side2 => exact HC1.out); rintro e w48 ⟨rfl, hb⟩; replace HO358 := Aside0.mk (Kd.R_below (pr HO358) hb); replace HO362 := Aside0.mk (Kd.R_below (pr HO362) hb); replace BK354 := nk BK354 hb; replace HB := bs hb; (try clear hb)) | (go_at_call 9; (with_reducible refine (impl_AreSignals.calls kj12 a0 _ _ l1 t371 _ ?side1 ?side2 A44.out).mono ?_); (case side1 => exact cb HR1); (case side2 => exact HC1.out); rintro e w49 ⟨rfl, hb⟩; replace HO358 := Aside0.mk (Kd.R_below (pr HO358) hb); replace HO362 := Aside0.mk (Kd.R_below (pr HO362) hb); replace BK354 := nk BK354 hb; replace HB := bs hb; (try clear hb))); try go_wp2_with (first | (go_at_call 8; (with_reducible refine (laws_vSame.calls kj12 _ _ t355 _ _ t359 true _ ?side1 ?side2 ?side3 ?side4 A28.out).mono ?_); (case side1 => repeat (first | exact (Kd.R_reads' HO358.out).2.2 | (with_reducible refine Kd.C_alloc ?_ _) | (with_reducible refine Kd.C_drewN ?_ _) | (with_reducible refine Kd.C_drew ?_))); (case side2 => exact (Kd.R_reads' HO358.out).2.1); (case side3 => repeat (first | exact (Kd.R_reads' HO362.out).2.2 | (with_reducible refine Kd.C_alloc ?_ _) | (with_reducible refine Kd.C_drewN ?_ _) | (with_reducible refine Kd.C_drew ?_))); (case side4 => exact (Kd.R_reads' HO362.out).2.1); rintro e w' ⟨rfl, ⟨nd, rfl⟩⟩; (try first | exact ⟨rfl, _, World.drewN_drewN _ _ _⟩ | exact ⟨rfl, _, Eq.trans (World.drewN_drewN _ _ _) (congrArg (World.drewN _) (Nat.add_assoc _ _ _))⟩)) | (go_at_call 9; (with_reducible refine (impl_AreSignals.calls kj12 a0 _ _ l1 t368 _ ?side1 ?side2 A32.out).mono ?_); (case side1 => repeat (first | exact (Kd.C_below HR1.out bw) | (with_reducible refine Kd.C_alloc ?_ _) | (with_reducible refine Kd.C_drewN ?_ _) | (with_reducible refine Kd.C_drew ?_))); (case side2 => exact HC1.out); rintro e w47 ⟨rfl, hb⟩; replace HO358 := Aside0.mk (Kd.R_below (pr HO358) hb); replace HO362 := Aside0.mk (Kd.R_below (pr HO362) hb); replace BK354 := nk BK354 hb; replace HB := bs hb; (try clear hb)) | (go_at_call 10; (with_reducible refine (spec_AreSignals.calls kj12 a0 _ _ l1 t369 _ ?side1 ?side2 A33.out).mono ?_); (case side1 => exact cb HR1); (case side2 => exact HC1.out); rintro e w48 ⟨rfl, hb⟩; replace HO358 := Aside0.mk (Kd.R_below (pr HO358) hb); replace HO362 := Aside0.mk (Kd.R_below (pr HO362) hb); replace BK354 := nk BK354 hb; replace HB := bs hb; (try clear hb)) | (go_at_call 9; (with_reducible refine (impl_AreSignals.calls kj12 a0 _ _ l1 t371 _ ?side1 ?side2 A44.out).mono ?_); (case side1 => exact cb HR1); (case side2 => exact HC1.out); rintro e w49 ⟨rfl, hb⟩; replace HO358 := Aside0.mk (Kd.R_below (pr HO358) hb); replace HO362 := Aside0.mk (Kd.R_below (pr HO362) hb); replace BK354 := nk BK354 hb; replace HB := bs hb; (try clear hb))))
            go_meet
            case rel => exact ⟨_, (!t371), (by first | (rw [e_.out]) | (simp [e_.out]; done) | exact (rs)), H', ⟨by have := HJ12.out; first | omega | exact Nat.le_refl _⟩, ⟨by (with_reducible repeat (first | apply Kd.R_alloc | apply Kd.R_drewN | apply Kd.R_drew)); exact Kd.R_mono HO358.out (fun _ hk => trivial)⟩, ⟨pk BK354⟩, ⟨bw⟩⟩
           ·replace c43 := Bool.eq_false_iff.mpr c43
            subst c43
            rw [if_neg (show ¬ (false = true) by decide)] at H
            have H' := Aside0.mk H
            clear H
            obtain ⟨Ao50, co50, eo50⟩ := Kd.R_slice HO358.out
            subst eo50
            obtain ⟨Ao51, co51, eo51⟩ := Kd.R_slice HO362.out
            subst eo51
            go_wp2_with (first | (go_at_call 8; (with_reducible refine (laws_vSame.calls kj12 _ _ t355 _ _ t359 true _ ?side1 ?side2 ?side3 ?side4 A28.out).mono ?_); (case side1 => repeat (first | exact (Kd.R_reads' HO358.out).2.2 | (with_reducible refine Kd.C_alloc ?_ _) | (with_reducible refine Kd.C_drewN ?_ _) | (with_reducible refine Kd.C_drew ?_))); (case side2 => exact (Kd.R_reads' HO358.out).2.1); (case side3 => repeat (first | exact (Kd.R_reads' HO362.out).2.2 | (with_reducible refine Kd.C_alloc ?_ _) | (with_reducible refine Kd.C_drewN ?_ _) | (with_reducible refine Kd.C_drew ?_))); (case side4 => exact (Kd.R_reads' HO362.out).2.1); rintro e w' ⟨rfl, ⟨nd, rfl⟩⟩; (try first | exact ⟨rfl, _, World.drewN_drewN _ _ _⟩ | exact ⟨rfl, _, Eq.trans (World.drewN_drewN _ _ _) (congrArg (World.drewN _) (Nat.add_assoc _ _ _))⟩)) | (go_at_call 9; (with_reducible refine (impl_AreSignals.calls kj12 a0 _ _ l1 t368 _ ?side1 ?side2 A32.out).mono ?_); (case side1 => repeat (first | exact (Kd.C_below HR1.out bw) | (with_reducible refine Kd.C_alloc ?_ _) | (with_reducible refine Kd.C_drewN ?_ _) | (with_reducible refine Kd.C_drew ?_))); (case side2 => exact HC1.out); rintro e w52 ⟨rfl, hb⟩; replace HO358 := Aside0.mk (Kd.R_below (pr HO358) hb); replace HO362 := Aside0.mk (Kd.R_below (pr HO362) hb); replace BK354 := nk BK354 hb; replace HB := bs hb; (try clear hb)) | (go_at_call 10; (with_reducible refine (spec_AreSignals.calls kj12 a0 _ _ l1 t369 _ ?side1 ?side2 A33.out).mono ?_); (case side1 => exact cb HR1); (case side2 => exact HC1.out); rintro e w53 ⟨rfl, hb⟩; replace HO358 := Aside0.mk (Kd.R_below (pr HO358) hb); replace HO362 := Aside0.mk (Kd.R_below (pr HO362) hb); replace BK354 := nk BK354 hb; replace HB := bs hb; (try clear hb)))
            repeat (go_quiet (first | (go_at_call 8; (with_reducible refine (laws_vSame.calls kj12 _ _ t355 _ _ t359 true _ ?side1 ?side2 ?side3 ?side4 A28.out).mono ?_); (case side1 => repeat (first | exact (Kd.R_reads' HO358.out).2.2 | (with_reducible refine Kd.C_alloc ?_ _) | (with_reducible refine Kd.C_drewN ?_ _) | (with_reducible refine Kd.C_drew ?_))); (case side2 => exact (Kd.R_reads' HO358.out).2.1); (case side3 => repeat (first | exact (Kd.R_reads' HO362.out).2.2 | (with_reducible refine Kd.C_alloc ?_ _) | (with_reducible refine Kd.C_drewN ?_ _) | (with_reducible refine Kd.C_drew ?_))); (case side4 => exact (Kd.R_reads' HO362.out).2.1); rintro e w' ⟨rfl, ⟨nd, rfl⟩⟩; (try first | exact ⟨rfl, _, World.drewN_drewN _ _ _⟩ | exact ⟨rfl, _, Eq.trans (World.drewN_drewN _ _ _) (congrArg (World.drewN _) (Nat.add_assoc _ _ _))⟩)) | (go_at_call 9; (with_reducible refine (impl_AreSignals.calls kj12 a0 _ _ l1 t368 _ ?side1 ?side2 A32.out).mono ?_); (case side1 => repeat (first | exact (Kd.C_below HR1.out bw) | (with_reducible refine Kd.C_alloc ?_ _) | (with_reducible refine Kd.C_drewN ?_ _) | (with_reducible refine Kd.C_drew ?_))); (case side2 => exact HC1.out); rintro e w52 ⟨rfl, hb⟩; replace HO358 := Aside0.mk (Kd.R_below (pr HO358) hb); replace HO362 := Aside0.mk (Kd.R_below (pr HO362) hb); replace BK354 := nk BK354 hb; replace HB := bs hb; (try clear hb)) | (go_at_call 10; (with_reducible refine (spec_AreSignals.calls kj12 a0 _ _ l1 t369 _ ?side1 ?side2 A33.out).mono ?_); (case side1 => exact cb HR1); (case side2 => exact HC1.out); rintro e w53 ⟨rfl, hb⟩; replace HO358 := Aside0.mk (Kd.R_below (pr HO358) hb); replace HO362 := Aside0.mk (Kd.R_below (pr HO362) hb); replace BK354 := nk BK354 hb; replace HB := bs hb; (try clear hb))); try go_wp2_with (first | (go_at_call 8; (with_reducible refine (laws_vSame.calls kj12 _ _ t355 _ _ t359 true _ ?side1 ?side2 ?side3 ?side4 A28.out).mono ?_); (case side1 => repeat (first | exact (Kd.R_reads' HO358.out).2.2 | (with_reducible refine Kd.C_alloc ?_ _) | (with_reducible refine Kd.C_drewN ?_ _) | (with_reducible refine Kd.C_drew ?_))); (case side2 => exact (Kd.R_reads' HO358.out).2.1); (case side3 => repeat (first | exact (Kd.R_reads' HO362.out).2.2 | (with_reducible refine Kd.C_alloc ?_ _) | (with_reducible refine Kd.C_drewN ?_ _) | (with_reducible refine Kd.C_drew ?_))); (case side4 => exact (Kd.R_reads' HO362.out).2.1); rintro e w' ⟨rfl, ⟨nd, rfl⟩⟩; (try first | exact ⟨rfl, _, World.drewN_drewN _ _ _⟩ | exact ⟨rfl, _, Eq.trans (World.drewN_drewN _ _ _) (congrArg (World.drewN _) (Nat.add_assoc _ _ _))⟩)) | (go_at_call 9; (with_reducible refine (impl_AreSignals.calls kj12 a0 _ _ l1 t368 _ ?side1 ?side2 A32.out).mono ?_); (case side1 => repeat (first | exact (Kd.C_below HR1.out bw) | (with_reducible refine Kd.C_alloc ?_ _) | (with_reducible refine Kd.C_drewN ?_ _) | (with_reducible refine Kd.C_drew ?_))); (case side2 => exact HC1.out); rintro e w52 ⟨rfl, hb⟩; replace HO358 := Aside0.mk (Kd.R_below (pr HO358) hb); replace HO362 := Aside0.mk (Kd.R_below (pr HO362) hb); replace BK354 := nk BK354 hb; replace HB := bs hb; (try clear hb)) | (go_at_call 10; (with_reducible refine (spec_AreSignals.calls kj12 a0 _ _ l1 t369 _ ?side1 ?side2 A33.out).mono ?_); (case side1 => exact cb HR1); (case side2 => exact HC1.out); rintro e w53 ⟨rfl, hb⟩; replace HO358 := Aside0.mk (Kd.R_below (pr HO358) hb); replace HO362 := Aside0.mk (Kd.R_below (pr HO362) hb); replace BK354 := nk BK354 hb; replace HB := bs hb; (try clear hb))))
            go_meet
            case rel => exact ⟨_, (false), (rs), H', ⟨by have := HJ12.out; first | omega | exact Nat.le_refl _⟩, ⟨by (with_reducible repeat (first | apply Kd.R_alloc | apply Kd.R_drewN | apply Kd.R_drew)); exact Kd.R_mono HO358.out (fun _ hk => trivial)⟩, ⟨pk BK354⟩, ⟨bw⟩⟩
        ·rw [if_neg c31] at H
         exact absurd (Option.some.inj H) (by rw [HRT.out]; decide)
      ·replace c29 := Bool.eq_false_iff.mpr c29
       subst c29
       rw [if_neg (show ¬ (false = true) by decide)] at H
       exact absurd (Option.some.inj H) (by rw [HRT.out]; decide)
    case rest =>
     clear HC22
     repeat (first|clear c1|clear c2|clear p2|clear c3|clear c4|clear c15|clear c15b0|clear c15b1|clear c16|clear c16b0|clear c16b1|clear c17|clear c27|clear c27b0|clear c27b1|clear c27b2|clear c29|clear c30|clear c30b0|clear c30b1|clear c30b2|clear c31|clear c31b0|clear c31b1|clear c34|clear c34b0|clear c34b1|clear c34b2|clear c35|clear c36|clear c43)
     obtain ⟨kq, x167_21, rfl, HA, HJ21, HO_25, BK354, HB⟩ := hcut
     cases kq with
     | zero => exact absurd HA.out (by simp [laws_FnSignalsReachOfAll.j1])
     | succ kj21 =>
      have H := HA.out
      clear HA
      simp only [laws_FnSignalsReachOfAll.j1] at H
      by_cases c54 : x167_21 = true
      ·subst c54
       rw [if_pos rfl] at H
       exact absurd (Option.some.inj H) (by rw [HRT.out]; decide)
      ·replace c54 := Bool.eq_false_iff.mpr c54
       subst c54
       rw [if_neg (show ¬ (false = true) by decide)] at H
       have HC55 := Aside0.mk H
       clear H
       go_upto_if 168 with (fail)
       repeat (go_quiet (fail); go_upto_if 168 with (fail))
       go_cut [111, 117, 123, 124, 125, 126, 127, 130, 131, 132, 133, 134, 135, 136, 137, 138, 141, 142, 143, 146, 149, 150, 151, 152, 153, 154, 155, 156, 157, 158, 159, 160, 161, 162, 163, 164, 165, 166, 167, 168] from 9999 (fun _ _ _ _ _ _ _ _ _ _ _ _ _ _ _ _ _ _ _ _ _ _ _ _ _ _ _ _ _ _ _ _ _ _ _ _ _ _ _ _ wc => ∃ (kq : Nat), Aside0 (laws_FnSignalsReachOfAll.j4 kq a3 l4 a5 a6 a7 a8 a9 a11 a10_0 a10_1 a10_2 = some r) ∧ Aside0 (kq ≤ kj21) ∧ Aside0 (wc.heap[gb354]? = some (.cells #[.int .i64 a10_0, .bool a10_1, .int .i64 a10_2] 25 (0, 0))) ∧ Aside0 (Below w.heap.size w wc))
       case first => as_aux_lemma =>
        have H := HC55.out
        clear HC55
        by_cases c56 : t356 = true
        ·subst c56
         rw [if_pos rfl] at H
         replace H := Option.bind_eq_some_iff.mp H
         obtain ⟨t372, A570, H⟩ := H
         (try dsimp only at H)
         have A57 := Aside0.mk A570
         clear A570
         by_cases c58 : t372 = true
         ·subst c58
          rw [if_pos rfl] at H
          by_cases c59 : (((t355.length : Int) == a0) != (decide (a2 ≥ t363))) = true
          ·rw [if_pos c59] at H
           exact absurd (Option.some.inj H) (by rw [HRT.out]; decide)
          ·rw [if_neg c59] at H
           have c59b0 : (((t355.length : Int) == a0) != (decide (a2 ≥ t363))) = false := by simpa using c59
           (try (have c59b1 : decide (((t355.length : Int) == a0) = (decide (a2 ≥ t363))) = true := by simpa using c59))
           (try (have c59b2 : (((t355.length : Int) == a0) == (decide (a2 ≥ t363))) = true := by simpa using c59))
           clear c59
           (first | rw [c59b0] | rw [@decide_eq_true _ _ (of_decide_eq_true c59b1)] | rw [@decide_eq_false _ _ (of_decide_eq_false c59b1)] | (simp only [i64_w, i32_w]; rw [c59b0]) | skip)
           have H' := Aside0.mk H
           clear H
           obtain ⟨Ao60, co60, eo60⟩ := Kd.R_slice HO_25.out
           subst eo60
           go_wp2_with (first | (go_at_call 11; (with_reducible refine (laws_vRises.calls kj21 _ _ t355 true _ ?side1 ?side2 A57.out).mono ?_); (case side1 => repeat (first | exact (Kd.R_reads' HO_25.out).2.2 | (with_reducible refine Kd.C_alloc ?_ _) | (with_reducible refine Kd.C_drewN ?_ _) | (with_reducible refine Kd.C_drew ?_))); (case side2 => exact (Kd.R_reads' HO_25.out).2.1); rintro e w' ⟨rfl, ⟨nd, rfl⟩⟩; (try first | exact ⟨rfl, _, World.drewN_drewN _ _ _⟩ | exact ⟨rfl, _, Eq.trans (World.drewN_drewN _ _ _) (congrArg (World.drewN _) (Nat.add_assoc _ _ _))⟩)))
           repeat (go_quiet (first | (go_at_call 11; (with_reducible refine (laws_vRises.calls kj21 _ _ t355 true _ ?side1 ?side2 A57.out).mono ?_); (case side1 => repeat (first | exact (Kd.R_reads' HO_25.out).2.2 | (with_reducible refine Kd.C_alloc ?_ _) | (with_reducible refine Kd.C_drewN ?_ _) | (with_reducible refine Kd.C_drew ?_))); (case side2 => exact (Kd.R_reads' HO_25.out).2.1); rintro e w' ⟨rfl, ⟨nd, rfl⟩⟩; (try first | exact ⟨rfl, _, World.drewN_drewN _ _ _⟩ | exact ⟨rfl, _, Eq.trans (World.drewN_drewN _ _ _) (congrArg (World.drewN _) (Nat.add_assoc _ _ _))⟩))); try go_wp2_with (first | (go_at_call 11; (with_reducible refine (laws_vRises.calls kj21 _ _ t355 true _ ?side1 ?side2 A57.out).mono ?_); (case side1 => repeat (first | exact (Kd.R_reads' HO_25.out).2.2 | (with_reducible refine Kd.C_alloc ?_ _) | (with_reducible refine Kd.C_drewN ?_ _) | (with_reducible refine Kd.C_drew ?_))); (case side2 => exact (Kd.R_reads' HO_25.out).2.1); rintro e w' ⟨rfl, ⟨nd, rfl⟩⟩; (try first | exact ⟨rfl, _, World.drewN_drewN _ _ _⟩ | exact ⟨rfl, _, Eq.trans (World.drewN_drewN _ _ _) (congrArg (World.drewN _) (Nat.add_assoc _ _ _))⟩))))
           go_loopg [184] kj21 (fun kq v184 w' => ∃ (x184_3 : Int), v184 = .int .i64 x184_3 ∧ Aside0 (laws_FnSignalsReachOfAll.l0 kq a0 l1 a2 a3 l4 a5 a6 a7 a8 a9 a11 t355 l1 (l1.length : Int) x184_3 a10_0 a10_1 a10_2 = some r) ∧ Aside0 (kq ≤ kj21) ∧ Aside0 (Kd.R (Kd.int .i64) 3 w' w.heap.size (fun _ => True) (.slice Ao60 t355.length co60) t355) ∧ Aside0 (w'.heap[gb354]? = some (.cells #[.int .i64 a10_0, .bool a10_1, .int .i64 a10_2] 25 (0, 0))) ∧ Aside0 (Below w.heap.size w w'))
           case atStart => exact ⟨(0), (rs), H', ⟨Nat.le_refl _⟩, ⟨pr HO_25⟩, ⟨pk BK354⟩, ⟨bw⟩⟩
           case round =>
            clear H'
            repeat (first|clear c1|clear c2|clear p2|clear c3|clear c4|clear c5|clear c15|clear c15b0|clear c15b1|clear c16|clear c16b0|clear c16b1|clear c17|clear c27|clear c27b0|clear c27b1|clear c27b2|clear c29|clear c30|clear c30b0|clear c30b1|clear c30b2|clear c31|clear c31b0|clear c31b1|clear c34|clear c34b0|clear c34b1|clear c34b2|clear c35|clear c36|clear c43|clear c54|clear c56|clear c58|clear c59|clear c59b0|clear c59b1|clear c59b2)
            obtain ⟨x184_3, rfl, HA, HK3, HO_25, BK354, HB⟩ := hrel
            cases gk with
            | zero => exact absurd HA.out (by simp [laws_FnSignalsReachOfAll.l0])
            | succ k3 =>
             have H := HA.out
             clear HA
             simp only [laws_FnSignalsReachOfAll.l0] at H
             by_cases c61 : x184_3 < (l1.length : Int)
             ·rw [if_pos c61] at H
              have c61b0 : decide (x184_3 < (l1.length : Int)) = true := decide_eq_true c61
              clear c61
              by_cases c62 : 0 ≤ x184_3
              ·rw [if_pos c62] at H
               have c62b0 : decide (0 ≤ x184_3) = true := decide_eq_true c62
               clear c62
               by_cases c63 : x184_3 < (l1.length : Int)
               ·rw [if_pos c63] at H
                have c63b0 : decide (x184_3 < (l1.length : Int)) = true := decide_eq_true c63
                clear c63
                replace H := Option.bind_eq_some_iff.mp H
                obtain ⟨t375, A640, H⟩ := H
                (try dsimp only at H)
                have A64 := Aside0.mk A640
                clear A640
                by_cases c65 : t375 = true
                ·subst c65
                 rw [if_pos rfl] at H
                 have H' := Aside0.mk H
                 clear H
                 have p373 : 0 ≤ (x184_3 : Int) := of_decide_eq_true (by first | (with_reducible assumption) | assumption)
                 have q373 : x184_3 < (l1.length : Int) := of_decide_eq_true (by first | (with_reducible assumption) | assumption)
                 obtain ⟨ad373, e373, hx373_0, hx373_1, hx373_2⟩ := at_T25 HR1.out x184_3 p373 q373
                 cases e373
                 replace hx373_0 := (HB.out.cell (World.block_lt_of_cell? w _ hx373_0)).trans hx373_0
                 replace hx373_1 := (HB.out.cell (World.block_lt_of_cell? w _ hx373_1)).trans hx373_1
                 replace hx373_2 := (HB.out.cell (World.block_lt_of_cell? w _ hx373_2)).trans hx373_2
                 replace p373 := eq_true p373
                 replace q373 := eq_true q373
                 go_wp2_with (first | ((with_reducible refine gate_dst (N := 34) rfl ?_); (try (refine gate_guard (by rfl) ?_; dsimp only)); refine bx 34 25 #[.int .i64 0, .bool false, .int .i64 0] ?_; intro gb374 hg w66 hbox hb; replace HO_25 := Aside0.mk (Kd.R_below (pr HO_25) hb); have BK374 := hbox; have GW374 := gs hg; have GE374 := gs hg; replace HB := bs hb; have NB354_374 := nl BK354 hg; have NB374_354 := ng BK354 hg; replace BK354 := nk BK354 hb; clear hb hbox hg; have hnb67 := NB374_354.out; have hnc67 := NB354_374.out; have hcz68_0 := bc BK374 0 (.int .i64 0); have hcz68_1 := bc BK374 1 (.bool false); have hcz68_2 := bc BK374 2 (.int .i64 0); have hfz68_0 := blk_frozen BK374.out 0; have hfz68_1 := blk_frozen BK374.out 1; have hfz68_2 := blk_frozen BK374.out 2) | (go_at_call 12; (with_reducible refine (laws_vHas.calls k3 _ _ t355 ((rd_T25 l1 x184_3).f0) true _ ?side1 ?side2 A64.out).mono ?_); (case side1 => refine (Kd.R_reads' (e := 3) (base := w.heap.size) (ok := fun k_ => True) (n := t355.length) (c := co60) ?_).2.2; exact (by (with_reducible repeat (first | apply Kd.R_alloc | apply Kd.R_drewN | apply Kd.R_drew)); exact (Kd.R_mono (Kd.R_far (p := ⟨gb374, 2, none⟩) (Kd.R_far (p := ⟨gb374, 1, none⟩) (Kd.R_far (p := ⟨gb374, 0, none⟩) (Kd.R_types HO_25.out BK374.out (by decide)) (fun _ hk => hk.2) (.int .i64 ((rd_T25 l1 x184_3).f0))) (fun _ hk => hk.2) (.bool ((rd_T25 l1 x184_3).f1))) (fun _ hk => hk.2) (.int .i64 ((rd_T25 l1 x184_3).f2))) (fun _ h_ => h_.1)))); (case side2 => exact (Kd.R_reads' HO_25.out).2.1); rintro e w' ⟨rfl, ⟨nd, rfl⟩⟩; (try first | exact ⟨rfl, _, World.drewN_drewN _ _ _⟩ | exact ⟨rfl, _, Eq.trans (World.drewN_drewN _ _ _) (congrArg (World.drewN _) (Nat.add_assoc _ _ _))⟩)))
                 repeat (go_quiet (first | ((with_reducible refine gate_dst (N := 34) rfl ?_); (try (refine gate_guard (by rfl) ?_; dsimp only)); refine bx 34 25 #[.int .i64 0, .bool false, .int .i64 0] ?_; intro gb374 hg w66 hbox hb; replace HO_25 := Aside0.mk (Kd.R_below (pr HO_25) hb); have BK374 := hbox; have GW374 := gs hg; have GE374 := gs hg; replace HB := bs hb; have NB354_374 := nl BK354 hg; have NB374_354 := ng BK354 hg; replace BK354 := nk BK354 hb; clear hb hbox hg; have hnb67 := NB374_354.out; have hnc67 := NB354_374.out; have hcz68_0 := bc BK374 0 (.int .i64 0); have hcz68_1 := bc BK374 1 (.bool false); have hcz68_2 := bc BK374 2 (.int .i64 0); have hfz68_0 := blk_frozen BK374.out 0; have hfz68_1 := blk_frozen BK374.out 1; have hfz68_2 := blk_frozen BK374.out 2) | (go_at_call 12; (with_reducible refine (laws_vHas.calls k3 _ _ t355 ((rd_T25 l1 x184_3).f0) true _ ?side1 ?side2 A64.out).mono ?_); (case side1 => refine (Kd.R_reads' (e := 3) (base := w.heap.size) (ok := fun k_ => True) (n := t355.length) (c := co60) ?_).2.2; exact (by (with_reducible repeat (first | apply Kd.R_alloc | apply Kd.R_drewN | apply Kd.R_drew)); exact (Kd.R_mono (Kd.R_far (p := ⟨gb374, 2, none⟩) (Kd.R_far (p := ⟨gb374, 1, none⟩) (Kd.R_far (p := ⟨gb374, 0, none⟩) (Kd.R_types HO_25.out BK374.out (by decide)) (fun _ hk => hk.2) (.int .i64 ((rd_T25 l1 x184_3).f0))) (fun _ hk => hk.2) (.bool ((rd_T25 l1 x184_3).f1))) (fun _ hk => hk.2) (.int .i64 ((rd_T25 l1 x184_3).f2))) (fun _ h_ => h_.1)))); (case side2 => exact (Kd.R_reads' HO_25.out).2.1); rintro e w' ⟨rfl, ⟨nd, rfl⟩⟩; (try first | exact ⟨rfl, _, World.drewN_drewN _ _ _⟩ | exact ⟨rfl, _, Eq.trans (World.drewN_drewN _ _ _) (congrArg (World.drewN _) (Nat.add_assoc _ _ _))⟩))); try go_wp2_with (first | ((with_reducible refine gate_dst (N := 34) rfl ?_); (try (refine gate_guard (by rfl) ?_; dsimp only)); refine bx 34 25 #[.int .i64 0, .bool false, .int .i64 0] ?_; intro gb374 hg w66 hbox hb; replace HO_25 := Aside0.mk (Kd.R_below (pr HO_25) hb); have BK374 := hbox; have GW374 := gs hg; have GE374 := gs hg; replace HB := bs hb; have NB354_374 := nl BK354 hg; have NB374_354 := ng BK354 hg; replace BK354 := nk BK354 hb; clear hb hbox hg; have hnb67 := NB374_354.out; have hnc67 := NB354_374.out; have hcz68_0 := bc BK374 0 (.int .i64 0); have hcz68_1 := bc BK374 1 (.bool false); have hcz68_2 := bc BK374 2 (.int .i64 0); have hfz68_0 := blk_frozen BK374.out 0; have hfz68_1 := blk_frozen BK374.out 1; have hfz68_2 := blk_frozen BK374.out 2) | (go_at_call 12; (with_reducible refine (laws_vHas.calls k3 _ _ t355 ((rd_T25 l1 x184_3).f0) true _ ?side1 ?side2 A64.out).mono ?_); (case side1 => refine (Kd.R_reads' (e := 3) (base := w.heap.size) (ok := fun k_ => True) (n := t355.length) (c := co60) ?_).2.2; exact (by (with_reducible repeat (first | apply Kd.R_alloc | apply Kd.R_drewN | apply Kd.R_drew)); exact (Kd.R_mono (Kd.R_far (p := ⟨gb374, 2, none⟩) (Kd.R_far (p := ⟨gb374, 1, none⟩) (Kd.R_far (p := ⟨gb374, 0, none⟩) (Kd.R_types HO_25.out BK374.out (by decide)) (fun _ hk => hk.2) (.int .i64 ((rd_T25 l1 x184_3).f0))) (fun _ hk => hk.2) (.bool ((rd_T25 l1 x184_3).f1))) (fun _ hk => hk.2) (.int .i64 ((rd_T25 l1 x184_3).f2))) (fun _ h_ => h_.1)))); (case side2 => exact (Kd.R_reads' HO_25.out).2.1); rintro e w' ⟨rfl, ⟨nd, rfl⟩⟩; (try first | exact ⟨rfl, _, World.drewN_drewN _ _ _⟩ | exact ⟨rfl, _, Eq.trans (World.drewN_drewN _ _ _) (congrArg (World.drewN _) (Nat.add_assoc _ _ _))⟩))))
                 go_roundg k3
                 case measure => have := HJ12.out; have := HJ21.out; have := HK3.out; omega
                 case rel => exact ⟨(wrap64 (x184_3 + 1)), (rs), H', ⟨by have := HJ12.out; have := HJ21.out; have := HK3.out; omega⟩, ⟨by (with_reducible repeat (first | apply Kd.R_alloc | apply Kd.R_drewN | apply Kd.R_drew)); exact Kd.R_mono (Kd.R_far (p := ⟨gb374, 2, none⟩) (Kd.R_far (p := ⟨gb374, 1, none⟩) (Kd.R_far (p := ⟨gb374, 0, none⟩) (Kd.R_types HO_25.out BK374.out (by decide)) (fun _ hk => hk.2) (.int .i64 ((rd_T25 l1 x184_3).f0))) (fun _ hk => hk.2) (.bool ((rd_T25 l1 x184_3).f1))) (fun _ hk => hk.2) (.int .i64 ((rd_T25 l1 x184_3).f2))) (fun _ hk => trivial)⟩, ⟨pf_ BK354⟩, ⟨bw⟩⟩
                ·replace c65 := Bool.eq_false_iff.mpr c65
                 subst c65
                 rw [if_neg (show ¬ (false = true) by decide)] at H
                 exact absurd (Option.some.inj H) (by rw [HRT.out]; decide)
               ·rw [if_neg c63] at H
                exact absurd H (by simp)
              ·rw [if_neg c62] at H
               exact absurd H (by simp)
             ·rw [if_neg c61] at H
              have c61b0 : decide (x184_3 < (l1.length : Int)) = false := decide_eq_false c61
              clear c61
              by_cases c69 : a2 > 0
              ·rw [if_pos c69] at H
               have c69b0 : decide (0 < a2) = true := decide_eq_true c69
               clear c69
               replace H := Option.bind_eq_some_iff.mp H
               obtain ⟨⟨t376, t377⟩, A700, H⟩ := H
               (try dsimp only at H)
               have A70 := Aside0.mk A700
               clear A700
               by_cases c71 : t377 = true
               ·subst c71
                rw [if_pos rfl] at H
                by_cases c72 : (t376.length : Int) > (t355.length : Int)
                ·rw [if_pos c72] at H
                 exact absurd (Option.some.inj H) (by rw [HRT.out]; decide)
                ·rw [if_neg c72] at H
                 have c72b0 : decide ((t355.length : Int) < (t376.length : Int)) = false := decide_eq_false c72
                 have c72b1 : decide (t355.length < t376.length) = false := decide_eq_false (fun h => c72 (Int.ofNat_lt.mpr h))
                 clear c72
                 have H' := Aside0.mk H
                 clear H
                 go_wp2_with (first | (go_at_call 4; (with_reducible refine (impl_HeardBy.calls k3 a0 _ _ l1 (wrap64 (a2 - 1)) t376 true _ ?side1 ?side2 A70.out).mono ?_); (case side1 => exact cb HR1); (case side2 => exact HC1.out); rintro e w73 ⟨v378, rfl, ho0, hb⟩; have HO379 := Aside0.mk (Kd.R_lower (Kd.R_new' ho0 (Kd.R_lt (pr HO_25))) (below_size bw)); replace HO_25 := Aside0.mk (Kd.R_elder' (pr HO_25) (Kd.R_base ho0) hb); replace BK354 := nk BK354 hb; replace HB := bs hb; (try clear hb); (try clear ho0); obtain ⟨Ao74, co74, eo74⟩ := Kd.R_slice HO379.out; subst eo74))
                 repeat (go_quiet (first | (go_at_call 4; (with_reducible refine (impl_HeardBy.calls k3 a0 _ _ l1 (wrap64 (a2 - 1)) t376 true _ ?side1 ?side2 A70.out).mono ?_); (case side1 => exact cb HR1); (case side2 => exact HC1.out); rintro e w73 ⟨v378, rfl, ho0, hb⟩; have HO379 := Aside0.mk (Kd.R_lower (Kd.R_new' ho0 (Kd.R_lt (pr HO_25))) (below_size bw)); replace HO_25 := Aside0.mk (Kd.R_elder' (pr HO_25) (Kd.R_base ho0) hb); replace BK354 := nk BK354 hb; replace HB := bs hb; (try clear hb); (try clear ho0); obtain ⟨Ao74, co74, eo74⟩ := Kd.R_slice HO379.out; subst eo74)); try go_wp2_with (first | (go_at_call 4; (with_reducible refine (impl_HeardBy.calls k3 a0 _ _ l1 (wrap64 (a2 - 1)) t376 true _ ?side1 ?side2 A70.out).mono ?_); (case side1 => exact cb HR1); (case side2 => exact HC1.out); rintro e w73 ⟨v378, rfl, ho0, hb⟩; have HO379 := Aside0.mk (Kd.R_lower (Kd.R_new' ho0 (Kd.R_lt (pr HO_25))) (below_size bw)); replace HO_25 := Aside0.mk (Kd.R_elder' (pr HO_25) (Kd.R_base ho0) hb); replace BK354 := nk BK354 hb; replace HB := bs hb; (try clear hb); (try clear ho0); obtain ⟨Ao74, co74, eo74⟩ := Kd.R_slice HO379.out; subst eo74)))
                 go_loopg [215] k3 (fun kq v215 w' => ∃ (x215_4 : Int), v215 = .int .i64 x215_4 ∧ Aside0 (laws_FnSignalsReachOfAll.l1 kq a3 l4 a5 a6 a7 a8 a9 a11 t355 t376 (t376.length : Int) x215_4 a10_0 a10_1 a10_2 = some r) ∧ Aside0 (kq ≤ k3) ∧ Aside0 (Kd.R (Kd.int .i64) 3 w' w.heap.size (fun k_ => some k_ ≠ ((.slice Ao74 t376.length co74) : Value).ownBlock) (.slice Ao60 t355.length co60) t355) ∧ Aside0 (Kd.R (Kd.int .i64) 3 w' w.heap.size (fun k_ => some k_ ≠ ((.slice Ao60 t355.length co60) : Value).ownBlock) (.slice Ao74 t376.length co74) t376) ∧ Aside0 (w'.heap[gb354]? = some (.cells #[.int .i64 a10_0, .bool a10_1, .int .i64 a10_2] 25 (0, 0))) ∧ Aside0 (Below w.heap.size w w'))
                 case atStart => exact ⟨(0), (rs), H', ⟨Nat.le_refl _⟩, ⟨by (with_reducible repeat (first | apply Kd.R_alloc | apply Kd.R_drewN | apply Kd.R_drew)); exact Kd.R_mono HO_25.out (fun _ hk => hk.2)⟩, ⟨by (with_reducible repeat (first | apply Kd.R_alloc | apply Kd.R_drewN | apply Kd.R_drew)); exact Kd.R_mono HO379.out (fun _ hk => hk.2)⟩, ⟨pk BK354⟩, ⟨bw⟩⟩
                 case round =>
                  clear H'
                  repeat (first|clear c1|clear c2|clear p2|clear c3|clear p3|clear q3|clear hx3|clear c4|clear c5|clear c6|clear p6|clear c7|clear c15|clear c15b0|clear c15b1|clear c16|clear c16b0|clear c16b1|clear c17|clear c27|clear c27b0|clear c27b1|clear c27b2|clear c29|clear c30|clear c30b0|clear c30b1|clear c30b2|clear c31|clear c31b0|clear c31b1|clear c34|clear c34b0|clear c34b1|clear c34b2|clear c35|clear c36|clear p37|clear q37|clear hx37|clear c43|clear c54|clear c56|clear c58|clear c59|clear c59b0|clear c59b1|clear c59b2|clear c61|clear c61b0|clear c62|clear c62b0|clear c63|clear c63b0|clear p64|clear c65|clear c67|clear c69|clear c69b0|clear c71|clear c72|clear c72b0|clear c72b1|clear hcz68_0|clear hcz68_1|clear hcz68_2|clear hfz68_0|clear hfz68_1|clear hfz68_2|clear hx373_0|clear hx373_1|clear hx373_2|clear p373|clear q373)
                  obtain ⟨x215_4, rfl, HA, HK4, HO_25, HO_213, BK354, HB⟩ := hrel
                  cases gk with
                  | zero => exact absurd HA.out (by simp [laws_FnSignalsReachOfAll.l1])
                  | succ k4 =>
                   have H := HA.out
                   clear HA
                   simp only [laws_FnSignalsReachOfAll.l1] at H
                   by_cases c75 : x215_4 < (t376.length : Int)
                   ·rw [if_pos c75] at H
                    have c75b0 : decide (x215_4 < (t376.length : Int)) = true := decide_eq_true c75
                    clear c75
                    by_cases c76 : 0 ≤ x215_4
                    ·rw [if_pos c76] at H
                     have c76b0 : decide (0 ≤ x215_4) = true := decide_eq_true c76
                     clear c76
                     by_cases c77 : x215_4 < (t376.length : Int)
                     ·rw [if_pos c77] at H
                      have c77b0 : decide (x215_4 < (t376.length : Int)) = true := decide_eq_true c77
                      clear c77
                      replace H := Option.bind_eq_some_iff.mp H
                      obtain ⟨t381, A780, H⟩ := H
                      (try dsimp only at H)
                      have A78 := Aside0.mk A780
                      clear A780
                      by_cases c79 : t381 = true
                      ·subst c79
                       rw [if_pos rfl] at H
                       have H' := Aside0.mk H
                       clear H
                       have p380 : 0 ≤ (x215_4 : Int) := of_decide_eq_true (by first | (with_reducible assumption) | assumption)
                       have q380 : x215_4 < (t376.length : Int) := of_decide_eq_true (by first | (with_reducible assumption) | assumption)
                       obtain ⟨ad380, e380, hx380_0⟩ := Kd.at_int (Kd.R_reads' HO_213.out).2.2 x215_4 p380 q380
                       cases e380
                       replace p380 := eq_true p380
                       replace q380 := eq_true q380
                       go_wp2_with (first | (go_at_call 12; (with_reducible refine (laws_vHas.calls k4 _ _ t355 (rd t376 x215_4) true _ ?side1 ?side2 A78.out).mono ?_); (case side1 => repeat (first | exact (Kd.R_reads' HO_25.out).2.2 | (with_reducible refine Kd.C_alloc ?_ _) | (with_reducible refine Kd.C_drewN ?_ _) | (with_reducible refine Kd.C_drew ?_))); (case side2 => exact (Kd.R_reads' HO_25.out).2.1); rintro e w' ⟨rfl, ⟨nd, rfl⟩⟩; (try first | exact ⟨rfl, _, World.drewN_drewN _ _ _⟩ | exact ⟨rfl, _, Eq.trans (World.drewN_drewN _ _ _) (congrArg (World.drewN _) (Nat.add_assoc _ _ _))⟩)))
                       repeat (go_quiet (first | (go_at_call 12; (with_reducible refine (laws_vHas.calls k4 _ _ t355 (rd t376 x215_4) true _ ?side1 ?side2 A78.out).mono ?_); (case side1 => repeat (first | exact (Kd.R_reads' HO_25.out).2.2 | (with_reducible refine Kd.C_alloc ?_ _) | (with_reducible refine Kd.C_drewN ?_ _) | (with_reducible refine Kd.C_drew ?_))); (case side2 => exact (Kd.R_reads' HO_25.out).2.1); rintro e w' ⟨rfl, ⟨nd, rfl⟩⟩; (try first | exact ⟨rfl, _, World.drewN_drewN _ _ _⟩ | exact ⟨rfl, _, Eq.trans (World.drewN_drewN _ _ _) (congrArg (World.drewN _) (Nat.add_assoc _ _ _))⟩))); try go_wp2_with (first | (go_at_call 12; (with_reducible refine (laws_vHas.calls k4 _ _ t355 (rd t376 x215_4) true _ ?side1 ?side2 A78.out).mono ?_); (case side1 => repeat (first | exact (Kd.R_reads' HO_25.out).2.2 | (with_reducible refine Kd.C_alloc ?_ _) | (with_reducible refine Kd.C_drewN ?_ _) | (with_reducible refine Kd.C_drew ?_))); (case side2 => exact (Kd.R_reads' HO_25.out).2.1); rintro e w' ⟨rfl, ⟨nd, rfl⟩⟩; (try first | exact ⟨rfl, _, World.drewN_drewN _ _ _⟩ | exact ⟨rfl, _, Eq.trans (World.drewN_drewN _ _ _) (congrArg (World.drewN _) (Nat.add_assoc _ _ _))⟩))))
                       go_roundg k4
                       case measure => have := HJ12.out; have := HJ21.out; have := HK3.out; have := HK4.out; omega
                       case rel => exact ⟨(wrap64 (x215_4 + 1)), (rs), H', ⟨by have := HJ12.out; have := HJ21.out; have := HK3.out; have := HK4.out; omega⟩, ⟨pr HO_25⟩, ⟨pr HO_213⟩, ⟨pk BK354⟩, ⟨bw⟩⟩
                      ·replace c79 := Bool.eq_false_iff.mpr c79
                       subst c79
                       rw [if_neg (show ¬ (false = true) by decide)] at H
                       exact absurd (Option.some.inj H) (by rw [HRT.out]; decide)
                     ·rw [if_neg c77] at H
                      exact absurd H (by simp)
                    ·rw [if_neg c76] at H
                     exact absurd H (by simp)
                   ·rw [if_neg c75] at H
                    have c75b0 : decide (x215_4 < (t376.length : Int)) = false := decide_eq_false c75
                    clear c75
                    have H' := Aside0.mk H
                    clear H
                    go_wp2
                    repeat (go_quiet (fail); try go_wp2)
                    go_meet
                    case rel => exact ⟨_, H', ⟨by have := HJ12.out; have := HJ21.out; have := HK3.out; have := HK4.out; first | omega | exact Nat.le_refl _⟩, ⟨pk BK354⟩, ⟨bw⟩⟩
               ·replace c71 := Bool.eq_false_iff.mpr c71
                subst c71
                rw [if_neg (show ¬ (false = true) by decide)] at H
                exact absurd (Option.some.inj H) (by rw [HRT.out]; decide)
              ·rw [if_neg c69] at H
               have c69b0 : decide (0 < a2) = false := decide_eq_false c69
               clear c69
               have H' := Aside0.mk H
               clear H
               go_wp2
               repeat (go_quiet (fail); try go_wp2)
               go_meet
               case rel => exact ⟨_, H', ⟨by have := HJ12.out; have := HJ21.out; have := HK3.out; first | omega | exact Nat.le_refl _⟩, ⟨pk BK354⟩, ⟨bw⟩⟩
         ·replace c58 := Bool.eq_false_iff.mpr c58
          subst c58
          rw [if_neg (show ¬ (false = true) by decide)] at H
          exact absurd (Option.some.inj H) (by rw [HRT.out]; decide)
        ·replace c56 := Bool.eq_false_iff.mpr c56
         subst c56
         rw [if_neg (show ¬ (false = true) by decide)] at H
         have H' := Aside0.mk H
         clear H
         go_wp2
         repeat (go_quiet (fail); try go_wp2)
         go_meet
         case rel => exact ⟨_, H', ⟨by have := HJ12.out; have := HJ21.out; first | omega | exact Nat.le_refl _⟩, ⟨pk BK354⟩, ⟨bw⟩⟩
       case rest =>
        clear HC55
        repeat (first|clear c1|clear c2|clear p2|clear c3|clear p3|clear q3|clear hx3|clear c4|clear c5|clear c6|clear p6|clear c7|clear c15|clear c15b0|clear c15b1|clear c16|clear c16b0|clear c16b1|clear c17|clear c27|clear c27b0|clear c27b1|clear c27b2|clear c29|clear c30|clear c30b0|clear c30b1|clear c30b2|clear c31|clear c31b0|clear c31b1|clear c34|clear c34b0|clear c34b1|clear c34b2|clear c35|clear c36|clear p37|clear q37|clear hx37|clear p38|clear q38|clear hx38|clear c43|clear c54|clear c56|clear c58|clear c59|clear c59b0|clear c59b1|clear c59b2|clear c61|clear c61b0|clear c62|clear c62b0|clear c63|clear c63b0|clear p64|clear c65|clear c67|clear c69|clear c69b0|clear c71|clear c72|clear c72b0|clear c72b1|clear c75|clear c75b0|clear c76|clear c76b0|clear c77|clear c77b0|clear c79|clear hcz68_0|clear hcz68_1|clear hcz68_2|clear hfz68_0|clear hfz68_1|clear hfz68_2|clear hx373_0|clear hx373_1|clear hx373_2|clear hx380_0|clear p373|clear p380|clear q373|clear q380)
        obtain ⟨kq, HA, HJ54, BK354, HB⟩ := hcut
        cases kq with
        | zero => exact absurd HA.out (by simp [laws_FnSignalsReachOfAll.j4])
        | succ kj54 =>
         have H := HA.out
         clear HA
         simp only [laws_FnSignalsReachOfAll.j4] at H
         replace H := Option.bind_eq_some_iff.mp H
         obtain ⟨⟨t382, t383⟩, A800, H⟩ := H
         (try dsimp only at H)
         have A80 := Aside0.mk A800
         clear A800
         replace H := Option.bind_eq_some_iff.mp H
         obtain ⟨⟨t386, t387⟩, A810, H⟩ := H
         (try dsimp only at H)
         have A81 := Aside0.mk A810
         clear A810
         replace H := Option.bind_eq_some_iff.mp H
         obtain ⟨⟨t390, t391⟩, A820, H⟩ := H
         (try dsimp only at H)
         have A82 := Aside0.mk A820
         clear A820
         replace H := Option.bind_eq_some_iff.mp H
         obtain ⟨⟨t392, t393⟩, A830, H⟩ := H
         (try dsimp only at H)
         have A83 := Aside0.mk A830
         clear A830
         replace H := Option.bind_eq_some_iff.mp H
         obtain ⟨⟨t394, t395⟩, A840, H⟩ := H
         (try dsimp only at H)
         have A84 := Aside0.mk A840
         clear A840
         replace H := Option.bind_eq_some_iff.mp H
         obtain ⟨⟨t398, t399⟩, A850, H⟩ := H
         (try dsimp only at H)
         have A85 := Aside0.mk A850
         clear A850
         replace H := Option.bind_eq_some_iff.mp H
         obtain ⟨⟨t402, t403⟩, A860, H⟩ := H
         (try dsimp only at H)
         have A86 := Aside0.mk A860
         clear A860
         replace H := Option.bind_eq_some_iff.mp H
         obtain ⟨⟨t404, t405⟩, A870, H⟩ := H
         (try dsimp only at H)
         have A87 := Aside0.mk A870
         clear A870
         replace H := Option.bind_eq_some_iff.mp H
         obtain ⟨⟨t406, t407⟩, A880, H⟩ := H
         (try dsimp only at H)
         have A88 := Aside0.mk A880
         clear A880
         replace H := Option.bind_eq_some_iff.mp H
         obtain ⟨⟨t410, t411⟩, A890, H⟩ := H
         (try dsimp only at H)
         have A89 := Aside0.mk A890
         clear A890
         replace H := Option.bind_eq_some_iff.mp H
         obtain ⟨⟨t414, t415, t416⟩, A900, H⟩ := H
         (try dsimp only at H)
         have A90 := Aside0.mk A900
         clear A900
         replace H := Option.bind_eq_some_iff.mp H
         obtain ⟨⟨t417, t418, t419⟩, A910, H⟩ := H
         (try dsimp only at H)
         have A91 := Aside0.mk A910
         clear A910
         replace H := Option.bind_eq_some_iff.mp H
         obtain ⟨⟨t420, t421⟩, A920, H⟩ := H
         (try dsimp only at H)
         have A92 := Aside0.mk A920
         clear A920
         replace H := Option.bind_eq_some_iff.mp H
         obtain ⟨⟨t422, t423⟩, A930, H⟩ := H
         (try dsimp only at H)
         have A93 := Aside0.mk A930
         clear A930
         replace H := Option.bind_eq_some_iff.mp H
         obtain ⟨⟨t424, t425, t426, t427⟩, A940, H⟩ := H
         (try dsimp only at H)
         have A94 := Aside0.mk A940
         clear A940
         replace H := Option.bind_eq_some_iff.mp H
         obtain ⟨⟨t429, t430, t431, t432⟩, A950, H⟩ := H
         (try dsimp only at H)
         have A95 := Aside0.mk A950
         clear A950
         have HC96 := Aside0.mk H
         clear H
         go_upto_region 44 with (first | (go_at_call 13; (with_reducible refine (impl_SpreadTimes.calls kj54 a3 _ _ l4 t382 t383 _ ?side1 ?side2 A80.out).mono ?_); (case side1 => exact cb HR4); (case side2 => exact HC4.out); rintro e w97 ⟨v384, rfl, ho0, hb⟩; have HO385 := Aside0.mk (Kd.R_lower ho0 (below_size bw)); replace BK354 := nk BK354 hb; replace HB := bs hb; (try clear hb); (try clear ho0)) | (go_at_call 14; (with_reducible refine (spec_SpreadTimes.calls kj54 a3 _ _ l4 t386 t387 _ ?side1 ?side2 A81.out).mono ?_); (case side1 => exact cb HR4); (case side2 => exact HC4.out); rintro e w98 ⟨v388, rfl, ho0, hb⟩; have HO389 := Aside0.mk (Kd.R_lower (Kd.R_new' ho0 (Kd.R_lt (pr HO385))) (below_size bw)); replace HO385 := Aside0.mk (Kd.R_elder' (pr HO385) (Kd.R_base ho0) hb); replace BK354 := nk BK354 hb; replace HB := bs hb; (try clear hb); (try clear ho0)) | (go_at_call 15; (with_reducible refine (impl_TimeAllKnow.calls kj54 a3 _ _ l4 t390 t391 _ ?side1 ?side2 A82.out).mono ?_); (case side1 => exact cb HR4); (case side2 => exact HC4.out); rintro e w99 ⟨rfl, hb⟩; replace HO385 := Aside0.mk (Kd.R_below (pr HO385) hb); replace HO389 := Aside0.mk (Kd.R_below (pr HO389) hb); replace BK354 := nk BK354 hb; replace HB := bs hb; (try clear hb)) | (go_at_call 16; (with_reducible refine (spec_TimeAllKnow.calls kj54 a3 _ _ l4 t392 t393 _ ?side1 ?side2 A83.out).mono ?_); (case side1 => exact cb HR4); (case side2 => exact HC4.out); rintro e w100 ⟨rfl, hb⟩; replace HO385 := Aside0.mk (Kd.R_below (pr HO385) hb); replace HO389 := Aside0.mk (Kd.R_below (pr HO389) hb); replace BK354 := nk BK354 hb; replace HB := bs hb; (try clear hb)) | (go_at_call 17; (with_reducible refine (impl_BestStarts.calls kj54 a5 a6 t394 t395 _ A84.out).mono ?_); rintro e w101 ⟨v396, rfl, ho0, hb⟩; have HO397 := Aside0.mk (Kd.R_lower (Kd.R_new' (Kd.R_new' ho0 (Kd.R_lt (pr HO385))) (Kd.R_lt (pr HO389))) (below_size bw)); replace HO385 := Aside0.mk (Kd.R_elder' (pr HO385) (Kd.R_base ho0) hb); replace HO389 := Aside0.mk (Kd.R_elder' (pr HO389) (Kd.R_base ho0) hb); replace BK354 := nk BK354 hb; replace HB := bs hb; (try clear hb); (try clear ho0)) | (go_at_call 18; (with_reducible refine (spec_BestStarts.calls kj54 a5 a6 t398 t399 _ A85.out).mono ?_); rintro e w102 ⟨v400, rfl, ho0, hb⟩; have HO401 := Aside0.mk (Kd.R_lower (Kd.R_new' (Kd.R_new' (Kd.R_new' ho0 (Kd.R_lt (pr HO385))) (Kd.R_lt (pr HO389))) (Kd.R_lt (pr HO397))) (below_size bw)); replace HO385 := Aside0.mk (Kd.R_elder' (pr HO385) (Kd.R_base ho0) hb); replace HO389 := Aside0.mk (Kd.R_elder' (pr HO389) (Kd.R_base ho0) hb); replace HO397 := Aside0.mk (Kd.R_elder' (pr HO397) (Kd.R_base ho0) hb); replace BK354 := nk BK354 hb; replace HB := bs hb; (try clear hb); (try clear ho0)) | (go_at_call 19; (with_reducible refine (impl_LeastTimeWith.calls kj54 a5 a6 t402 t403 _ A86.out).mono ?_); rintro e w' ⟨rfl, ⟨nd, rfl⟩⟩; (try first | exact ⟨rfl, _, World.drewN_drewN _ _ _⟩ | exact ⟨rfl, _, Eq.trans (World.drewN_drewN _ _ _) (congrArg (World.drewN _) (Nat.add_assoc _ _ _))⟩)) | (go_at_call 20; (with_reducible refine (spec_LeastTimeWith.calls kj54 a5 a6 t404 t405 _ A87.out).mono ?_); rintro e w' ⟨rfl, ⟨nd, rfl⟩⟩; (try first | exact ⟨rfl, _, World.drewN_drewN _ _ _⟩ | exact ⟨rfl, _, Eq.trans (World.drewN_drewN _ _ _) (congrArg (World.drewN _) (Nat.add_assoc _ _ _))⟩)) | (go_at_call 21; (with_reducible refine (impl_WaitsFor.calls kj54 a7 a8 t406 t407 _ A88.out).mono ?_); rintro e w103 ⟨v408, rfl, ho0, hb⟩; have HO409 := Aside0.mk (Kd.R_lower (Kd.R_new' (Kd.R_new' (Kd.R_new' (Kd.R_new' ho0 (Kd.R_lt (pr HO385))) (Kd.R_lt (pr HO389))) (Kd.R_lt (pr HO397))) (Kd.R_lt (pr HO401))) (below_size bw)); replace HO385 := Aside0.mk (Kd.R_elder' (pr HO385) (Kd.R_base ho0) hb); replace HO389 := Aside0.mk (Kd.R_elder' (pr HO389) (Kd.R_base ho0) hb); replace HO397 := Aside0.mk (Kd.R_elder' (pr HO397) (Kd.R_base ho0) hb); replace HO401 := Aside0.mk (Kd.R_elder' (pr HO401) (Kd.R_base ho0) hb); replace BK354 := nk BK354 hb; replace HB := bs hb; (try clear hb); (try clear ho0)) | (go_at_call 22; (with_reducible refine (spec_WaitsFor.calls kj54 a7 a8 t410 t411 _ A89.out).mono ?_); rintro e w104 ⟨v412, rfl, ho0, hb⟩; have HO413 := Aside0.mk (Kd.R_lower (Kd.R_new' (Kd.R_new' (Kd.R_new' (Kd.R_new' (Kd.R_new' ho0 (Kd.R_lt (pr HO385))) (Kd.R_lt (pr HO389))) (Kd.R_lt (pr HO397))) (Kd.R_lt (pr HO401))) (Kd.R_lt (pr HO409))) (below_size bw)); replace HO385 := Aside0.mk (Kd.R_elder' (pr HO385) (Kd.R_base ho0) hb); replace HO389 := Aside0.mk (Kd.R_elder' (pr HO389) (Kd.R_base ho0) hb); replace HO397 := Aside0.mk (Kd.R_elder' (pr HO397) (Kd.R_base ho0) hb); replace HO401 := Aside0.mk (Kd.R_elder' (pr HO401) (Kd.R_base ho0) hb); replace HO409 := Aside0.mk (Kd.R_elder' (pr HO409) (Kd.R_base ho0) hb); replace BK354 := nk BK354 hb; replace HB := bs hb; (try clear hb); (try clear ho0)) | (go_at_call 23; (with_reducible refine (impl_MiddleMeeting.calls kj54 a9 t414 t415 t416 _ A90.out).mono ?_); rintro e w105 ⟨rfl, hb⟩; replace HO385 := Aside0.mk (Kd.R_below (pr HO385) hb); replace HO389 := Aside0.mk (Kd.R_below (pr HO389) hb); replace HO397 := Aside0.mk (Kd.R_below (pr HO397) hb); replace HO401 := Aside0.mk (Kd.R_below (pr HO401) hb); replace HO409 := Aside0.mk (Kd.R_below (pr HO409) hb); replace HO413 := Aside0.mk (Kd.R_below (pr HO413) hb); replace BK354 := nk BK354 hb; replace HB := bs hb; (try clear hb)) | (go_at_call 24; (with_reducible refine (spec_MiddleMeeting.calls kj54 a9 t417 t418 t419 _ A91.out).mono ?_); rintro e w106 ⟨rfl, hb⟩; replace HO385 := Aside0.mk (Kd.R_below (pr HO385) hb); replace HO389 := Aside0.mk (Kd.R_below (pr HO389) hb); replace HO397 := Aside0.mk (Kd.R_below (pr HO397) hb); replace HO401 := Aside0.mk (Kd.R_below (pr HO401) hb); replace HO409 := Aside0.mk (Kd.R_below (pr HO409) hb); replace HO413 := Aside0.mk (Kd.R_below (pr HO413) hb); replace BK354 := nk BK354 hb; replace HB := bs hb; (try clear hb); have hcz107_0 := bc BK354 0 (.int .i64 a10_0); have hcz107_1 := bc BK354 1 (.bool a10_1); have hcz107_2 := bc BK354 2 (.int .i64 a10_2); have hfz107_0 := blk_frozen BK354.out 0; have hfz107_1 := blk_frozen BK354.out 1; have hfz107_2 := blk_frozen BK354.out 2) | (go_at_call 25; (with_reducible refine (impl_SignalText.calls a10_0 a10_1 a10_2 t420 t421 _ A92.out).mono ?_); rintro e w108 ⟨rfl, hb⟩; replace HO385 := Aside0.mk (Kd.R_below (pr HO385) hb); replace HO389 := Aside0.mk (Kd.R_below (pr HO389) hb); replace HO397 := Aside0.mk (Kd.R_below (pr HO397) hb); replace HO401 := Aside0.mk (Kd.R_below (pr HO401) hb); replace HO409 := Aside0.mk (Kd.R_below (pr HO409) hb); replace HO413 := Aside0.mk (Kd.R_below (pr HO413) hb); replace BK354 := nk BK354 hb; replace HB := bs hb; (try clear hb); have hcz109_0 := bc BK354 0 (.int .i64 a10_0); have hcz109_1 := bc BK354 1 (.bool a10_1); have hcz109_2 := bc BK354 2 (.int .i64 a10_2); have hfz109_0 := blk_frozen BK354.out 0; have hfz109_1 := blk_frozen BK354.out 1; have hfz109_2 := blk_frozen BK354.out 2) | (go_at_call 26; (with_reducible refine (spec_SignalText.calls kj54 a10_0 a10_1 a10_2 t422 t423 _ A93.out).mono ?_); rintro e w110 ⟨rfl, hb⟩; replace HO385 := Aside0.mk (Kd.R_below (pr HO385) hb); replace HO389 := Aside0.mk (Kd.R_below (pr HO389) hb); replace HO397 := Aside0.mk (Kd.R_below (pr HO397) hb); replace HO401 := Aside0.mk (Kd.R_below (pr HO401) hb); replace HO409 := Aside0.mk (Kd.R_below (pr HO409) hb); replace HO413 := Aside0.mk (Kd.R_below (pr HO413) hb); replace BK354 := nk BK354 hb; replace HB := bs hb; (try clear hb)) | (go_at_call 27; (with_reducible refine (impl_ParseSignal.calls a11 t424 t425 t426 t427 _ ?side1 A94.out).mono ?_); (case side1 => exact Dr.mm HMM); rintro e w111 ⟨rfl, hb⟩; replace HO385 := Aside0.mk (Kd.R_below (pr HO385) hb); replace HO389 := Aside0.mk (Kd.R_below (pr HO389) hb); replace HO397 := Aside0.mk (Kd.R_below (pr HO397) hb); replace HO401 := Aside0.mk (Kd.R_below (pr HO401) hb); replace HO409 := Aside0.mk (Kd.R_below (pr HO409) hb); replace HO413 := Aside0.mk (Kd.R_below (pr HO413) hb); replace BK354 := nk BK354 hb; replace HB := bs hb; (try clear hb)) | ((with_reducible refine gate_dst (N := 69) rfl ?_); (try (refine gate_guard (by rfl) ?_; dsimp only)); refine bx 69 25 #[.int .i64 0, .bool false, .int .i64 0] ?_; intro gb428 hg w112 hbox hb; replace HO385 := Aside0.mk (Kd.R_below (pr HO385) hb); replace HO389 := Aside0.mk (Kd.R_below (pr HO389) hb); replace HO397 := Aside0.mk (Kd.R_below (pr HO397) hb); replace HO401 := Aside0.mk (Kd.R_below (pr HO401) hb); replace HO409 := Aside0.mk (Kd.R_below (pr HO409) hb); replace HO413 := Aside0.mk (Kd.R_below (pr HO413) hb); have BK428 := hbox; have GW428 := gs hg; have GE428 := gs hg; replace HB := bs hb; have NB354_428 := nl BK354 hg; have NB428_354 := ng BK354 hg; replace BK354 := nk BK354 hb; clear hb hbox hg; have hnb113 := NB428_354.out; have hnc113 := NB354_428.out; have hcz114_0 := bc BK428 0 (.int .i64 0); have hcz114_1 := bc BK428 1 (.bool false); have hcz114_2 := bc BK428 2 (.int .i64 0); have hfz114_0 := blk_frozen BK428.out 0; have hfz114_1 := blk_frozen BK428.out 1; have hfz114_2 := blk_frozen BK428.out 2) | (go_at_call 28; (with_reducible refine (spec_ParseSignal.calls kj54 a11 t429 t430 t431 t432 _ A95.out).mono ?_); rintro e w115 ⟨rfl, hb⟩; replace HO385 := Aside0.mk (Kd.R_below (by (with_reducible repeat (first | apply Kd.R_alloc | apply Kd.R_drewN | apply Kd.R_drew)); exact (Kd.R_mono (Kd.R_far (p := ⟨gb428, 2, none⟩) (Kd.R_far (p := ⟨gb428, 1, none⟩) (Kd.R_far (p := ⟨gb428, 0, none⟩) (Kd.R_types HO385.out BK428.out (by decide)) (fun _ hk => hk.2) (.int .i64 t424)) (fun _ hk => hk.2) (.bool t425)) (fun _ hk => hk.2) (.int .i64 t426)) (fun _ h_ => h_.1))) hb); replace HO389 := Aside0.mk (Kd.R_below (by (with_reducible repeat (first | apply Kd.R_alloc | apply Kd.R_drewN | apply Kd.R_drew)); exact (Kd.R_mono (Kd.R_far (p := ⟨gb428, 2, none⟩) (Kd.R_far (p := ⟨gb428, 1, none⟩) (Kd.R_far (p := ⟨gb428, 0, none⟩) (Kd.R_types HO389.out BK428.out (by decide)) (fun _ hk => hk.2) (.int .i64 t424)) (fun _ hk => hk.2) (.bool t425)) (fun _ hk => hk.2) (.int .i64 t426)) (fun _ h_ => h_.1))) hb); replace HO397 := Aside0.mk (Kd.R_below (by (with_reducible repeat (first | apply Kd.R_alloc | apply Kd.R_drewN | apply Kd.R_drew)); exact (Kd.R_mono (Kd.R_far (p := ⟨gb428, 2, none⟩) (Kd.R_far (p := ⟨gb428, 1, none⟩) (Kd.R_far (p := ⟨gb428, 0, none⟩) (Kd.R_types HO397.out BK428.out (by decide)) (fun _ hk => hk.2) (.int .i64 t424)) (fun _ hk => hk.2) (.bool t425)) (fun _ hk => hk.2) (.int .i64 t426)) (fun _ h_ => h_.1))) hb); replace HO401 := Aside0.mk (Kd.R_below (by (with_reducible repeat (first | apply Kd.R_alloc | apply Kd.R_drewN | apply Kd.R_drew)); exact (Kd.R_mono (Kd.R_far (p := ⟨gb428, 2, none⟩) (Kd.R_far (p := ⟨gb428, 1, none⟩) (Kd.R_far (p := ⟨gb428, 0, none⟩) (Kd.R_types HO401.out BK428.out (by decide)) (fun _ hk => hk.2) (.int .i64 t424)) (fun _ hk => hk.2) (.bool t425)) (fun _ hk => hk.2) (.int .i64 t426)) (fun _ h_ => h_.1))) hb); replace HO409 := Aside0.mk (Kd.R_below (by (with_reducible repeat (first | apply Kd.R_alloc | apply Kd.R_drewN | apply Kd.R_drew)); exact (Kd.R_mono (Kd.R_far (p := ⟨gb428, 2, none⟩) (Kd.R_far (p := ⟨gb428, 1, none⟩) (Kd.R_far (p := ⟨gb428, 0, none⟩) (Kd.R_types HO409.out BK428.out (by decide)) (fun _ hk => hk.2) (.int .i64 t424)) (fun _ hk => hk.2) (.bool t425)) (fun _ hk => hk.2) (.int .i64 t426)) (fun _ h_ => h_.1))) hb); replace HO413 := Aside0.mk (Kd.R_below (by (with_reducible repeat (first | apply Kd.R_alloc | apply Kd.R_drewN | apply Kd.R_drew)); exact (Kd.R_mono (Kd.R_far (p := ⟨gb428, 2, none⟩) (Kd.R_far (p := ⟨gb428, 1, none⟩) (Kd.R_far (p := ⟨gb428, 0, none⟩) (Kd.R_types HO413.out BK428.out (by decide)) (fun _ hk => hk.2) (.int .i64 t424)) (fun _ hk => hk.2) (.bool t425)) (fun _ hk => hk.2) (.int .i64 t426)) (fun _ h_ => h_.1))) hb); replace BK354 := nf_ BK354 hb; replace BK428 := Aside0.mk (blk_below (g := gb428) (o := .cells #[.int .i64 t424, .bool t425, .int .i64 t426] 25 (0, 0)) (by (with_reducible repeat (first | refine blk_drewN ?_ _ | refine blk_drew ?_ | refine blk_alloc ?_ _)); refine blk_put (cs := #[.int .i64 t424, .bool t425, .int .i64 0]) ?_ 2 _ rfl; (with_reducible repeat (first | refine blk_drewN ?_ _ | refine blk_drew ?_ | refine blk_alloc ?_ _)); refine blk_put (cs := #[.int .i64 t424, .bool false, .int .i64 0]) ?_ 1 _ rfl; (with_reducible repeat (first | refine blk_drewN ?_ _ | refine blk_drew ?_ | refine blk_alloc ?_ _)); refine blk_put (cs := #[.int .i64 0, .bool false, .int .i64 0]) ?_ 0 _ rfl; (with_reducible repeat (first | refine blk_drewN ?_ _ | refine blk_drew ?_ | refine blk_alloc ?_ _)); exact BK428.out) hb); replace HB := bs hb; (try clear hb)) | ((with_reducible refine gate_dst (N := 71) rfl ?_); (try (refine gate_guard (by rfl) ?_; dsimp only)); refine bx 71 25 #[.int .i64 0, .bool false, .int .i64 0] ?_; intro gb433 hg w116 hbox hb; replace HO385 := Aside0.mk (Kd.R_below (pr HO385) hb); replace HO389 := Aside0.mk (Kd.R_below (pr HO389) hb); replace HO397 := Aside0.mk (Kd.R_below (pr HO397) hb); replace HO401 := Aside0.mk (Kd.R_below (pr HO401) hb); replace HO409 := Aside0.mk (Kd.R_below (pr HO409) hb); replace HO413 := Aside0.mk (Kd.R_below (pr HO413) hb); have BK433 := hbox; have GW433 := gs hg; have GE433 := gs hg; replace HB := bs hb; have NB354_433 := nl BK354 hg; have NB433_354 := ng BK354 hg; replace BK354 := nk BK354 hb; have NB428_433 := nl BK428 hg; have NB433_428 := ng BK428 hg; replace BK428 := nk BK428 hb; clear hb hbox hg; have hnb117 := NB433_354.out; have hnc117 := NB354_433.out; have hnb118 := NB433_428.out; have hnc118 := NB428_433.out; have hcz119_0 := bc BK433 0 (.int .i64 0); have hcz119_1 := bc BK433 1 (.bool false); have hcz119_2 := bc BK433 2 (.int .i64 0); have hfz119_0 := blk_frozen BK433.out 0; have hfz119_1 := blk_frozen BK433.out 1; have hfz119_2 := blk_frozen BK433.out 2))
         repeat (go_quiet (first | (go_at_call 13; (with_reducible refine (impl_SpreadTimes.calls kj54 a3 _ _ l4 t382 t383 _ ?side1 ?side2 A80.out).mono ?_); (case side1 => exact cb HR4); (case side2 => exact HC4.out); rintro e w97 ⟨v384, rfl, ho0, hb⟩; have HO385 := Aside0.mk (Kd.R_lower ho0 (below_size bw)); replace BK354 := nk BK354 hb; replace HB := bs hb; (try clear hb); (try clear ho0)) | (go_at_call 14; (with_reducible refine (spec_SpreadTimes.calls kj54 a3 _ _ l4 t386 t387 _ ?side1 ?side2 A81.out).mono ?_); (case side1 => exact cb HR4); (case side2 => exact HC4.out); rintro e w98 ⟨v388, rfl, ho0, hb⟩; have HO389 := Aside0.mk (Kd.R_lower (Kd.R_new' ho0 (Kd.R_lt (pr HO385))) (below_size bw)); replace HO385 := Aside0.mk (Kd.R_elder' (pr HO385) (Kd.R_base ho0) hb); replace BK354 := nk BK354 hb; replace HB := bs hb; (try clear hb); (try clear ho0)) | (go_at_call 15; (with_reducible refine (impl_TimeAllKnow.calls kj54 a3 _ _ l4 t390 t391 _ ?side1 ?side2 A82.out).mono ?_); (case side1 => exact cb HR4); (case side2 => exact HC4.out); rintro e w99 ⟨rfl, hb⟩; replace HO385 := Aside0.mk (Kd.R_below (pr HO385) hb); replace HO389 := Aside0.mk (Kd.R_below (pr HO389) hb); replace BK354 := nk BK354 hb; replace HB := bs hb; (try clear hb)) | (go_at_call 16; (with_reducible refine (spec_TimeAllKnow.calls kj54 a3 _ _ l4 t392 t393 _ ?side1 ?side2 A83.out).mono ?_); (case side1 => exact cb HR4); (case side2 => exact HC4.out); rintro e w100 ⟨rfl, hb⟩; replace HO385 := Aside0.mk (Kd.R_below (pr HO385) hb); replace HO389 := Aside0.mk (Kd.R_below (pr HO389) hb); replace BK354 := nk BK354 hb; replace HB := bs hb; (try clear hb)) | (go_at_call 17; (with_reducible refine (impl_BestStarts.calls kj54 a5 a6 t394 t395 _ A84.out).mono ?_); rintro e w101 ⟨v396, rfl, ho0, hb⟩; have HO397 := Aside0.mk (Kd.R_lower (Kd.R_new' (Kd.R_new' ho0 (Kd.R_lt (pr HO385))) (Kd.R_lt (pr HO389))) (below_size bw)); replace HO385 := Aside0.mk (Kd.R_elder' (pr HO385) (Kd.R_base ho0) hb); replace HO389 := Aside0.mk (Kd.R_elder' (pr HO389) (Kd.R_base ho0) hb); replace BK354 := nk BK354 hb; replace HB := bs hb; (try clear hb); (try clear ho0)) | (go_at_call 18; (with_reducible refine (spec_BestStarts.calls kj54 a5 a6 t398 t399 _ A85.out).mono ?_); rintro e w102 ⟨v400, rfl, ho0, hb⟩; have HO401 := Aside0.mk (Kd.R_lower (Kd.R_new' (Kd.R_new' (Kd.R_new' ho0 (Kd.R_lt (pr HO385))) (Kd.R_lt (pr HO389))) (Kd.R_lt (pr HO397))) (below_size bw)); replace HO385 := Aside0.mk (Kd.R_elder' (pr HO385) (Kd.R_base ho0) hb); replace HO389 := Aside0.mk (Kd.R_elder' (pr HO389) (Kd.R_base ho0) hb); replace HO397 := Aside0.mk (Kd.R_elder' (pr HO397) (Kd.R_base ho0) hb); replace BK354 := nk BK354 hb; replace HB := bs hb; (try clear hb); (try clear ho0)) | (go_at_call 19; (with_reducible refine (impl_LeastTimeWith.calls kj54 a5 a6 t402 t403 _ A86.out).mono ?_); rintro e w' ⟨rfl, ⟨nd, rfl⟩⟩; (try first | exact ⟨rfl, _, World.drewN_drewN _ _ _⟩ | exact ⟨rfl, _, Eq.trans (World.drewN_drewN _ _ _) (congrArg (World.drewN _) (Nat.add_assoc _ _ _))⟩)) | (go_at_call 20; (with_reducible refine (spec_LeastTimeWith.calls kj54 a5 a6 t404 t405 _ A87.out).mono ?_); rintro e w' ⟨rfl, ⟨nd, rfl⟩⟩; (try first | exact ⟨rfl, _, World.drewN_drewN _ _ _⟩ | exact ⟨rfl, _, Eq.trans (World.drewN_drewN _ _ _) (congrArg (World.drewN _) (Nat.add_assoc _ _ _))⟩)) | (go_at_call 21; (with_reducible refine (impl_WaitsFor.calls kj54 a7 a8 t406 t407 _ A88.out).mono ?_); rintro e w103 ⟨v408, rfl, ho0, hb⟩; have HO409 := Aside0.mk (Kd.R_lower (Kd.R_new' (Kd.R_new' (Kd.R_new' (Kd.R_new' ho0 (Kd.R_lt (pr HO385))) (Kd.R_lt (pr HO389))) (Kd.R_lt (pr HO397))) (Kd.R_lt (pr HO401))) (below_size bw)); replace HO385 := Aside0.mk (Kd.R_elder' (pr HO385) (Kd.R_base ho0) hb); replace HO389 := Aside0.mk (Kd.R_elder' (pr HO389) (Kd.R_base ho0) hb); replace HO397 := Aside0.mk (Kd.R_elder' (pr HO397) (Kd.R_base ho0) hb); replace HO401 := Aside0.mk (Kd.R_elder' (pr HO401) (Kd.R_base ho0) hb); replace BK354 := nk BK354 hb; replace HB := bs hb; (try clear hb); (try clear ho0)) | (go_at_call 22; (with_reducible refine (spec_WaitsFor.calls kj54 a7 a8 t410 t411 _ A89.out).mono ?_); rintro e w104 ⟨v412, rfl, ho0, hb⟩; have HO413 := Aside0.mk (Kd.R_lower (Kd.R_new' (Kd.R_new' (Kd.R_new' (Kd.R_new' (Kd.R_new' ho0 (Kd.R_lt (pr HO385))) (Kd.R_lt (pr HO389))) (Kd.R_lt (pr HO397))) (Kd.R_lt (pr HO401))) (Kd.R_lt (pr HO409))) (below_size bw)); replace HO385 := Aside0.mk (Kd.R_elder' (pr HO385) (Kd.R_base ho0) hb); replace HO389 := Aside0.mk (Kd.R_elder' (pr HO389) (Kd.R_base ho0) hb); replace HO397 := Aside0.mk (Kd.R_elder' (pr HO397) (Kd.R_base ho0) hb); replace HO401 := Aside0.mk (Kd.R_elder' (pr HO401) (Kd.R_base ho0) hb); replace HO409 := Aside0.mk (Kd.R_elder' (pr HO409) (Kd.R_base ho0) hb); replace BK354 := nk BK354 hb; replace HB := bs hb; (try clear hb); (try clear ho0)) | (go_at_call 23; (with_reducible refine (impl_MiddleMeeting.calls kj54 a9 t414 t415 t416 _ A90.out).mono ?_); rintro e w105 ⟨rfl, hb⟩; replace HO385 := Aside0.mk (Kd.R_below (pr HO385) hb); replace HO389 := Aside0.mk (Kd.R_below (pr HO389) hb); replace HO397 := Aside0.mk (Kd.R_below (pr HO397) hb); replace HO401 := Aside0.mk (Kd.R_below (pr HO401) hb); replace HO409 := Aside0.mk (Kd.R_below (pr HO409) hb); replace HO413 := Aside0.mk (Kd.R_below (pr HO413) hb); replace BK354 := nk BK354 hb; replace HB := bs hb; (try clear hb)) | (go_at_call 24; (with_reducible refine (spec_MiddleMeeting.calls kj54 a9 t417 t418 t419 _ A91.out).mono ?_); rintro e w106 ⟨rfl, hb⟩; replace HO385 := Aside0.mk (Kd.R_below (pr HO385) hb); replace HO389 := Aside0.mk (Kd.R_below (pr HO389) hb); replace HO397 := Aside0.mk (Kd.R_below (pr HO397) hb); replace HO401 := Aside0.mk (Kd.R_below (pr HO401) hb); replace HO409 := Aside0.mk (Kd.R_below (pr HO409) hb); replace HO413 := Aside0.mk (Kd.R_below (pr HO413) hb); replace BK354 := nk BK354 hb; replace HB := bs hb; (try clear hb); have hcz107_0 := bc BK354 0 (.int .i64 a10_0); have hcz107_1 := bc BK354 1 (.bool a10_1); have hcz107_2 := bc BK354 2 (.int .i64 a10_2); have hfz107_0 := blk_frozen BK354.out 0; have hfz107_1 := blk_frozen BK354.out 1; have hfz107_2 := blk_frozen BK354.out 2) | (go_at_call 25; (with_reducible refine (impl_SignalText.calls a10_0 a10_1 a10_2 t420 t421 _ A92.out).mono ?_); rintro e w108 ⟨rfl, hb⟩; replace HO385 := Aside0.mk (Kd.R_below (pr HO385) hb); replace HO389 := Aside0.mk (Kd.R_below (pr HO389) hb); replace HO397 := Aside0.mk (Kd.R_below (pr HO397) hb); replace HO401 := Aside0.mk (Kd.R_below (pr HO401) hb); replace HO409 := Aside0.mk (Kd.R_below (pr HO409) hb); replace HO413 := Aside0.mk (Kd.R_below (pr HO413) hb); replace BK354 := nk BK354 hb; replace HB := bs hb; (try clear hb); have hcz109_0 := bc BK354 0 (.int .i64 a10_0); have hcz109_1 := bc BK354 1 (.bool a10_1); have hcz109_2 := bc BK354 2 (.int .i64 a10_2); have hfz109_0 := blk_frozen BK354.out 0; have hfz109_1 := blk_frozen BK354.out 1; have hfz109_2 := blk_frozen BK354.out 2) | (go_at_call 26; (with_reducible refine (spec_SignalText.calls kj54 a10_0 a10_1 a10_2 t422 t423 _ A93.out).mono ?_); rintro e w110 ⟨rfl, hb⟩; replace HO385 := Aside0.mk (Kd.R_below (pr HO385) hb); replace HO389 := Aside0.mk (Kd.R_below (pr HO389) hb); replace HO397 := Aside0.mk (Kd.R_below (pr HO397) hb); replace HO401 := Aside0.mk (Kd.R_below (pr HO401) hb); replace HO409 := Aside0.mk (Kd.R_below (pr HO409) hb); replace HO413 := Aside0.mk (Kd.R_below (pr HO413) hb); replace BK354 := nk BK354 hb; replace HB := bs hb; (try clear hb)) | (go_at_call 27; (with_reducible refine (impl_ParseSignal.calls a11 t424 t425 t426 t427 _ ?side1 A94.out).mono ?_); (case side1 => exact Dr.mm HMM); rintro e w111 ⟨rfl, hb⟩; replace HO385 := Aside0.mk (Kd.R_below (pr HO385) hb); replace HO389 := Aside0.mk (Kd.R_below (pr HO389) hb); replace HO397 := Aside0.mk (Kd.R_below (pr HO397) hb); replace HO401 := Aside0.mk (Kd.R_below (pr HO401) hb); replace HO409 := Aside0.mk (Kd.R_below (pr HO409) hb); replace HO413 := Aside0.mk (Kd.R_below (pr HO413) hb); replace BK354 := nk BK354 hb; replace HB := bs hb; (try clear hb)) | ((with_reducible refine gate_dst (N := 69) rfl ?_); (try (refine gate_guard (by rfl) ?_; dsimp only)); refine bx 69 25 #[.int .i64 0, .bool false, .int .i64 0] ?_; intro gb428 hg w112 hbox hb; replace HO385 := Aside0.mk (Kd.R_below (pr HO385) hb); replace HO389 := Aside0.mk (Kd.R_below (pr HO389) hb); replace HO397 := Aside0.mk (Kd.R_below (pr HO397) hb); replace HO401 := Aside0.mk (Kd.R_below (pr HO401) hb); replace HO409 := Aside0.mk (Kd.R_below (pr HO409) hb); replace HO413 := Aside0.mk (Kd.R_below (pr HO413) hb); have BK428 := hbox; have GW428 := gs hg; have GE428 := gs hg; replace HB := bs hb; have NB354_428 := nl BK354 hg; have NB428_354 := ng BK354 hg; replace BK354 := nk BK354 hb; clear hb hbox hg; have hnb113 := NB428_354.out; have hnc113 := NB354_428.out; have hcz114_0 := bc BK428 0 (.int .i64 0); have hcz114_1 := bc BK428 1 (.bool false); have hcz114_2 := bc BK428 2 (.int .i64 0); have hfz114_0 := blk_frozen BK428.out 0; have hfz114_1 := blk_frozen BK428.out 1; have hfz114_2 := blk_frozen BK428.out 2) | (go_at_call 28; (with_reducible refine (spec_ParseSignal.calls kj54 a11 t429 t430 t431 t432 _ A95.out).mono ?_); rintro e w115 ⟨rfl, hb⟩; replace HO385 := Aside0.mk (Kd.R_below (by (with_reducible repeat (first | apply Kd.R_alloc | apply Kd.R_drewN | apply Kd.R_drew)); exact (Kd.R_mono (Kd.R_far (p := ⟨gb428, 2, none⟩) (Kd.R_far (p := ⟨gb428, 1, none⟩) (Kd.R_far (p := ⟨gb428, 0, none⟩) (Kd.R_types HO385.out BK428.out (by decide)) (fun _ hk => hk.2) (.int .i64 t424)) (fun _ hk => hk.2) (.bool t425)) (fun _ hk => hk.2) (.int .i64 t426)) (fun _ h_ => h_.1))) hb); replace HO389 := Aside0.mk (Kd.R_below (by (with_reducible repeat (first | apply Kd.R_alloc | apply Kd.R_drewN | apply Kd.R_drew)); exact (Kd.R_mono (Kd.R_far (p := ⟨gb428, 2, none⟩) (Kd.R_far (p := ⟨gb428, 1, none⟩) (Kd.R_far (p := ⟨gb428, 0, none⟩) (Kd.R_types HO389.out BK428.out (by decide)) (fun _ hk => hk.2) (.int .i64 t424)) (fun _ hk => hk.2) (.bool t425)) (fun _ hk => hk.2) (.int .i64 t426)) (fun _ h_ => h_.1))) hb); replace HO397 := Aside0.mk (Kd.R_below (by (with_reducible repeat (first | apply Kd.R_alloc | apply Kd.R_drewN | apply Kd.R_drew)); exact (Kd.R_mono (Kd.R_far (p := ⟨gb428, 2, none⟩) (Kd.R_far (p := ⟨gb428, 1, none⟩) (Kd.R_far (p := ⟨gb428, 0, none⟩) (Kd.R_types HO397.out BK428.out (by decide)) (fun _ hk => hk.2) (.int .i64 t424)) (fun _ hk => hk.2) (.bool t425)) (fun _ hk => hk.2) (.int .i64 t426)) (fun _ h_ => h_.1))) hb); replace HO401 := Aside0.mk (Kd.R_below (by (with_reducible repeat (first | apply Kd.R_alloc | apply Kd.R_drewN | apply Kd.R_drew)); exact (Kd.R_mono (Kd.R_far (p := ⟨gb428, 2, none⟩) (Kd.R_far (p := ⟨gb428, 1, none⟩) (Kd.R_far (p := ⟨gb428, 0, none⟩) (Kd.R_types HO401.out BK428.out (by decide)) (fun _ hk => hk.2) (.int .i64 t424)) (fun _ hk => hk.2) (.bool t425)) (fun _ hk => hk.2) (.int .i64 t426)) (fun _ h_ => h_.1))) hb); replace HO409 := Aside0.mk (Kd.R_below (by (with_reducible repeat (first | apply Kd.R_alloc | apply Kd.R_drewN | apply Kd.R_drew)); exact (Kd.R_mono (Kd.R_far (p := ⟨gb428, 2, none⟩) (Kd.R_far (p := ⟨gb428, 1, none⟩) (Kd.R_far (p := ⟨gb428, 0, none⟩) (Kd.R_types HO409.out BK428.out (by decide)) (fun _ hk => hk.2) (.int .i64 t424)) (fun _ hk => hk.2) (.bool t425)) (fun _ hk => hk.2) (.int .i64 t426)) (fun _ h_ => h_.1))) hb); replace HO413 := Aside0.mk (Kd.R_below (by (with_reducible repeat (first | apply Kd.R_alloc | apply Kd.R_drewN | apply Kd.R_drew)); exact (Kd.R_mono (Kd.R_far (p := ⟨gb428, 2, none⟩) (Kd.R_far (p := ⟨gb428, 1, none⟩) (Kd.R_far (p := ⟨gb428, 0, none⟩) (Kd.R_types HO413.out BK428.out (by decide)) (fun _ hk => hk.2) (.int .i64 t424)) (fun _ hk => hk.2) (.bool t425)) (fun _ hk => hk.2) (.int .i64 t426)) (fun _ h_ => h_.1))) hb); replace BK354 := nf_ BK354 hb; replace BK428 := Aside0.mk (blk_below (g := gb428) (o := .cells #[.int .i64 t424, .bool t425, .int .i64 t426] 25 (0, 0)) (by (with_reducible repeat (first | refine blk_drewN ?_ _ | refine blk_drew ?_ | refine blk_alloc ?_ _)); refine blk_put (cs := #[.int .i64 t424, .bool t425, .int .i64 0]) ?_ 2 _ rfl; (with_reducible repeat (first | refine blk_drewN ?_ _ | refine blk_drew ?_ | refine blk_alloc ?_ _)); refine blk_put (cs := #[.int .i64 t424, .bool false, .int .i64 0]) ?_ 1 _ rfl; (with_reducible repeat (first | refine blk_drewN ?_ _ | refine blk_drew ?_ | refine blk_alloc ?_ _)); refine blk_put (cs := #[.int .i64 0, .bool false, .int .i64 0]) ?_ 0 _ rfl; (with_reducible repeat (first | refine blk_drewN ?_ _ | refine blk_drew ?_ | refine blk_alloc ?_ _)); exact BK428.out) hb); replace HB := bs hb; (try clear hb)) | ((with_reducible refine gate_dst (N := 71) rfl ?_); (try (refine gate_guard (by rfl) ?_; dsimp only)); refine bx 71 25 #[.int .i64 0, .bool false, .int .i64 0] ?_; intro gb433 hg w116 hbox hb; replace HO385 := Aside0.mk (Kd.R_below (pr HO385) hb); replace HO389 := Aside0.mk (Kd.R_below (pr HO389) hb); replace HO397 := Aside0.mk (Kd.R_below (pr HO397) hb); replace HO401 := Aside0.mk (Kd.R_below (pr HO401) hb); replace HO409 := Aside0.mk (Kd.R_below (pr HO409) hb); replace HO413 := Aside0.mk (Kd.R_below (pr HO413) hb); have BK433 := hbox; have GW433 := gs hg; have GE433 := gs hg; replace HB := bs hb; have NB354_433 := nl BK354 hg; have NB433_354 := ng BK354 hg; replace BK354 := nk BK354 hb; have NB428_433 := nl BK428 hg; have NB433_428 := ng BK428 hg; replace BK428 := nk BK428 hb; clear hb hbox hg; have hnb117 := NB433_354.out; have hnc117 := NB354_433.out; have hnb118 := NB433_428.out; have hnc118 := NB428_433.out; have hcz119_0 := bc BK433 0 (.int .i64 0); have hcz119_1 := bc BK433 1 (.bool false); have hcz119_2 := bc BK433 2 (.int .i64 0); have hfz119_0 := blk_frozen BK433.out 0; have hfz119_1 := blk_frozen BK433.out 1; have hfz119_2 := blk_frozen BK433.out 2)); go_upto_region 44 with (first | (go_at_call 13; (with_reducible refine (impl_SpreadTimes.calls kj54 a3 _ _ l4 t382 t383 _ ?side1 ?side2 A80.out).mono ?_); (case side1 => exact cb HR4); (case side2 => exact HC4.out); rintro e w97 ⟨v384, rfl, ho0, hb⟩; have HO385 := Aside0.mk (Kd.R_lower ho0 (below_size bw)); replace BK354 := nk BK354 hb; replace HB := bs hb; (try clear hb); (try clear ho0)) | (go_at_call 14; (with_reducible refine (spec_SpreadTimes.calls kj54 a3 _ _ l4 t386 t387 _ ?side1 ?side2 A81.out).mono ?_); (case side1 => exact cb HR4); (case side2 => exact HC4.out); rintro e w98 ⟨v388, rfl, ho0, hb⟩; have HO389 := Aside0.mk (Kd.R_lower (Kd.R_new' ho0 (Kd.R_lt (pr HO385))) (below_size bw)); replace HO385 := Aside0.mk (Kd.R_elder' (pr HO385) (Kd.R_base ho0) hb); replace BK354 := nk BK354 hb; replace HB := bs hb; (try clear hb); (try clear ho0)) | (go_at_call 15; (with_reducible refine (impl_TimeAllKnow.calls kj54 a3 _ _ l4 t390 t391 _ ?side1 ?side2 A82.out).mono ?_); (case side1 => exact cb HR4); (case side2 => exact HC4.out); rintro e w99 ⟨rfl, hb⟩; replace HO385 := Aside0.mk (Kd.R_below (pr HO385) hb); replace HO389 := Aside0.mk (Kd.R_below (pr HO389) hb); replace BK354 := nk BK354 hb; replace HB := bs hb; (try clear hb)) | (go_at_call 16; (with_reducible refine (spec_TimeAllKnow.calls kj54 a3 _ _ l4 t392 t393 _ ?side1 ?side2 A83.out).mono ?_); (case side1 => exact cb HR4); (case side2 => exact HC4.out); rintro e w100 ⟨rfl, hb⟩; replace HO385 := Aside0.mk (Kd.R_below (pr HO385) hb); replace HO389 := Aside0.mk (Kd.R_below (pr HO389) hb); replace BK354 := nk BK354 hb; replace HB := bs hb; (try clear hb)) | (go_at_call 17; (with_reducible refine (impl_BestStarts.calls kj54 a5 a6 t394 t395 _ A84.out).mono ?_); rintro e w101 ⟨v396, rfl, ho0, hb⟩; have HO397 := Aside0.mk (Kd.R_lower (Kd.R_new' (Kd.R_new' ho0 (Kd.R_lt (pr HO385))) (Kd.R_lt (pr HO389))) (below_size bw)); replace HO385 := Aside0.mk (Kd.R_elder' (pr HO385) (Kd.R_base ho0) hb); replace HO389 := Aside0.mk (Kd.R_elder' (pr HO389) (Kd.R_base ho0) hb); replace BK354 := nk BK354 hb; replace HB := bs hb; (try clear hb); (try clear ho0)) | (go_at_call 18; (with_reducible refine (spec_BestStarts.calls kj54 a5 a6 t398 t399 _ A85.out).mono ?_); rintro e w102 ⟨v400, rfl, ho0, hb⟩; have HO401 := Aside0.mk (Kd.R_lower (Kd.R_new' (Kd.R_new' (Kd.R_new' ho0 (Kd.R_lt (pr HO385))) (Kd.R_lt (pr HO389))) (Kd.R_lt (pr HO397))) (below_size bw)); replace HO385 := Aside0.mk (Kd.R_elder' (pr HO385) (Kd.R_base ho0) hb); replace HO389 := Aside0.mk (Kd.R_elder' (pr HO389) (Kd.R_base ho0) hb); replace HO397 := Aside0.mk (Kd.R_elder' (pr HO397) (Kd.R_base ho0) hb); replace BK354 := nk BK354 hb; replace HB := bs hb; (try clear hb); (try clear ho0)) | (go_at_call 19; (with_reducible refine (impl_LeastTimeWith.calls kj54 a5 a6 t402 t403 _ A86.out).mono ?_); rintro e w' ⟨rfl, ⟨nd, rfl⟩⟩; (try first | exact ⟨rfl, _, World.drewN_drewN _ _ _⟩ | exact ⟨rfl, _, Eq.trans (World.drewN_drewN _ _ _) (congrArg (World.drewN _) (Nat.add_assoc _ _ _))⟩)) | (go_at_call 20; (with_reducible refine (spec_LeastTimeWith.calls kj54 a5 a6 t404 t405 _ A87.out).mono ?_); rintro e w' ⟨rfl, ⟨nd, rfl⟩⟩; (try first | exact ⟨rfl, _, World.drewN_drewN _ _ _⟩ | exact ⟨rfl, _, Eq.trans (World.drewN_drewN _ _ _) (congrArg (World.drewN _) (Nat.add_assoc _ _ _))⟩)) | (go_at_call 21; (with_reducible refine (impl_WaitsFor.calls kj54 a7 a8 t406 t407 _ A88.out).mono ?_); rintro e w103 ⟨v408, rfl, ho0, hb⟩; have HO409 := Aside0.mk (Kd.R_lower (Kd.R_new' (Kd.R_new' (Kd.R_new' (Kd.R_new' ho0 (Kd.R_lt (pr HO385))) (Kd.R_lt (pr HO389))) (Kd.R_lt (pr HO397))) (Kd.R_lt (pr HO401))) (below_size bw)); replace HO385 := Aside0.mk (Kd.R_elder' (pr HO385) (Kd.R_base ho0) hb); replace HO389 := Aside0.mk (Kd.R_elder' (pr HO389) (Kd.R_base ho0) hb); replace HO397 := Aside0.mk (Kd.R_elder' (pr HO397) (Kd.R_base ho0) hb); replace HO401 := Aside0.mk (Kd.R_elder' (pr HO401) (Kd.R_base ho0) hb); replace BK354 := nk BK354 hb; replace HB := bs hb; (try clear hb); (try clear ho0)) | (go_at_call 22; (with_reducible refine (spec_WaitsFor.calls kj54 a7 a8 t410 t411 _ A89.out).mono ?_); rintro e w104 ⟨v412, rfl, ho0, hb⟩; have HO413 := Aside0.mk (Kd.R_lower (Kd.R_new' (Kd.R_new' (Kd.R_new' (Kd.R_new' (Kd.R_new' ho0 (Kd.R_lt (pr HO385))) (Kd.R_lt (pr HO389))) (Kd.R_lt (pr HO397))) (Kd.R_lt (pr HO401))) (Kd.R_lt (pr HO409))) (below_size bw)); replace HO385 := Aside0.mk (Kd.R_elder' (pr HO385) (Kd.R_base ho0) hb); replace HO389 := Aside0.mk (Kd.R_elder' (pr HO389) (Kd.R_base ho0) hb); replace HO397 := Aside0.mk (Kd.R_elder' (pr HO397) (Kd.R_base ho0) hb); replace HO401 := Aside0.mk (Kd.R_elder' (pr HO401) (Kd.R_base ho0) hb); replace HO409 := Aside0.mk (Kd.R_elder' (pr HO409) (Kd.R_base ho0) hb); replace BK354 := nk BK354 hb; replace HB := bs hb; (try clear hb); (try clear ho0)) | (go_at_call 23; (with_reducible refine (impl_MiddleMeeting.calls kj54 a9 t414 t415 t416 _ A90.out).mono ?_); rintro e w105 ⟨rfl, hb⟩; replace HO385 := Aside0.mk (Kd.R_below (pr HO385) hb); replace HO389 := Aside0.mk (Kd.R_below (pr HO389) hb); replace HO397 := Aside0.mk (Kd.R_below (pr HO397) hb); replace HO401 := Aside0.mk (Kd.R_below (pr HO401) hb); replace HO409 := Aside0.mk (Kd.R_below (pr HO409) hb); replace HO413 := Aside0.mk (Kd.R_below (pr HO413) hb); replace BK354 := nk BK354 hb; replace HB := bs hb; (try clear hb)) | (go_at_call 24; (with_reducible refine (spec_MiddleMeeting.calls kj54 a9 t417 t418 t419 _ A91.out).mono ?_); rintro e w106 ⟨rfl, hb⟩; replace HO385 := Aside0.mk (Kd.R_below (pr HO385) hb); replace HO389 := Aside0.mk (Kd.R_below (pr HO389) hb); replace HO397 := Aside0.mk (Kd.R_below (pr HO397) hb); replace HO401 := Aside0.mk (Kd.R_below (pr HO401) hb); replace HO409 := Aside0.mk (Kd.R_below (pr HO409) hb); replace HO413 := Aside0.mk (Kd.R_below (pr HO413) hb); replace BK354 := nk BK354 hb; replace HB := bs hb; (try clear hb); have hcz107_0 := bc BK354 0 (.int .i64 a10_0); have hcz107_1 := bc BK354 1 (.bool a10_1); have hcz107_2 := bc BK354 2 (.int .i64 a10_2); have hfz107_0 := blk_frozen BK354.out 0; have hfz107_1 := blk_frozen BK354.out 1; have hfz107_2 := blk_frozen BK354.out 2) | (go_at_call 25; (with_reducible refine (impl_SignalText.calls a10_0 a10_1 a10_2 t420 t421 _ A92.out).mono ?_); rintro e w108 ⟨rfl, hb⟩; replace HO385 := Aside0.mk (Kd.R_below (pr HO385) hb); replace HO389 := Aside0.mk (Kd.R_below (pr HO389) hb); replace HO397 := Aside0.mk (Kd.R_below (pr HO397) hb); replace HO401 := Aside0.mk (Kd.R_below (pr HO401) hb); replace HO409 := Aside0.mk (Kd.R_below (pr HO409) hb); replace HO413 := Aside0.mk (Kd.R_below (pr HO413) hb); replace BK354 := nk BK354 hb; replace HB := bs hb; (try clear hb); have hcz109_0 := bc BK354 0 (.int .i64 a10_0); have hcz109_1 := bc BK354 1 (.bool a10_1); have hcz109_2 := bc BK354 2 (.int .i64 a10_2); have hfz109_0 := blk_frozen BK354.out 0; have hfz109_1 := blk_frozen BK354.out 1; have hfz109_2 := blk_frozen BK354.out 2) | (go_at_call 26; (with_reducible refine (spec_SignalText.calls kj54 a10_0 a10_1 a10_2 t422 t423 _ A93.out).mono ?_); rintro e w110 ⟨rfl, hb⟩; replace HO385 := Aside0.mk (Kd.R_below (pr HO385) hb); replace HO389 := Aside0.mk (Kd.R_below (pr HO389) hb); replace HO397 := Aside0.mk (Kd.R_below (pr HO397) hb); replace HO401 := Aside0.mk (Kd.R_below (pr HO401) hb); replace HO409 := Aside0.mk (Kd.R_below (pr HO409) hb); replace HO413 := Aside0.mk (Kd.R_below (pr HO413) hb); replace BK354 := nk BK354 hb; replace HB := bs hb; (try clear hb)) | (go_at_call 27; (with_reducible refine (impl_ParseSignal.calls a11 t424 t425 t426 t427 _ ?side1 A94.out).mono ?_); (case side1 => exact Dr.mm HMM); rintro e w111 ⟨rfl, hb⟩; replace HO385 := Aside0.mk (Kd.R_below (pr HO385) hb); replace HO389 := Aside0.mk (Kd.R_below (pr HO389) hb); replace HO397 := Aside0.mk (Kd.R_below (pr HO397) hb); replace HO401 := Aside0.mk (Kd.R_below (pr HO401) hb); replace HO409 := Aside0.mk (Kd.R_below (pr HO409) hb); replace HO413 := Aside0.mk (Kd.R_below (pr HO413) hb); replace BK354 := nk BK354 hb; replace HB := bs hb; (try clear hb)) | ((with_reducible refine gate_dst (N := 69) rfl ?_); (try (refine gate_guard (by rfl) ?_; dsimp only)); refine bx 69 25 #[.int .i64 0, .bool false, .int .i64 0] ?_; intro gb428 hg w112 hbox hb; replace HO385 := Aside0.mk (Kd.R_below (pr HO385) hb); replace HO389 := Aside0.mk (Kd.R_below (pr HO389) hb); replace HO397 := Aside0.mk (Kd.R_below (pr HO397) hb); replace HO401 := Aside0.mk (Kd.R_below (pr HO401) hb); replace HO409 := Aside0.mk (Kd.R_below (pr HO409) hb); replace HO413 := Aside0.mk (Kd.R_below (pr HO413) hb); have BK428 := hbox; have GW428 := gs hg; have GE428 := gs hg; replace HB := bs hb; have NB354_428 := nl BK354 hg; have NB428_354 := ng BK354 hg; replace BK354 := nk BK354 hb; clear hb hbox hg; have hnb113 := NB428_354.out; have hnc113 := NB354_428.out; have hcz114_0 := bc BK428 0 (.int .i64 0); have hcz114_1 := bc BK428 1 (.bool false); have hcz114_2 := bc BK428 2 (.int .i64 0); have hfz114_0 := blk_frozen BK428.out 0; have hfz114_1 := blk_frozen BK428.out 1; have hfz114_2 := blk_frozen BK428.out 2) | (go_at_call 28; (with_reducible refine (spec_ParseSignal.calls kj54 a11 t429 t430 t431 t432 _ A95.out).mono ?_); rintro e w115 ⟨rfl, hb⟩; replace HO385 := Aside0.mk (Kd.R_below (by (with_reducible repeat (first | apply Kd.R_alloc | apply Kd.R_drewN | apply Kd.R_drew)); exact (Kd.R_mono (Kd.R_far (p := ⟨gb428, 2, none⟩) (Kd.R_far (p := ⟨gb428, 1, none⟩) (Kd.R_far (p := ⟨gb428, 0, none⟩) (Kd.R_types HO385.out BK428.out (by decide)) (fun _ hk => hk.2) (.int .i64 t424)) (fun _ hk => hk.2) (.bool t425)) (fun _ hk => hk.2) (.int .i64 t426)) (fun _ h_ => h_.1))) hb); replace HO389 := Aside0.mk (Kd.R_below (by (with_reducible repeat (first | apply Kd.R_alloc | apply Kd.R_drewN | apply Kd.R_drew)); exact (Kd.R_mono (Kd.R_far (p := ⟨gb428, 2, none⟩) (Kd.R_far (p := ⟨gb428, 1, none⟩) (Kd.R_far (p := ⟨gb428, 0, none⟩) (Kd.R_types HO389.out BK428.out (by decide)) (fun _ hk => hk.2) (.int .i64 t424)) (fun _ hk => hk.2) (.bool t425)) (fun _ hk => hk.2) (.int .i64 t426)) (fun _ h_ => h_.1))) hb); replace HO397 := Aside0.mk (Kd.R_below (by (with_reducible repeat (first | apply Kd.R_alloc | apply Kd.R_drewN | apply Kd.R_drew)); exact (Kd.R_mono (Kd.R_far (p := ⟨gb428, 2, none⟩) (Kd.R_far (p := ⟨gb428, 1, none⟩) (Kd.R_far (p := ⟨gb428, 0, none⟩) (Kd.R_types HO397.out BK428.out (by decide)) (fun _ hk => hk.2) (.int .i64 t424)) (fun _ hk => hk.2) (.bool t425)) (fun _ hk => hk.2) (.int .i64 t426)) (fun _ h_ => h_.1))) hb); replace HO401 := Aside0.mk (Kd.R_below (by (with_reducible repeat (first | apply Kd.R_alloc | apply Kd.R_drewN | apply Kd.R_drew)); exact (Kd.R_mono (Kd.R_far (p := ⟨gb428, 2, none⟩) (Kd.R_far (p := ⟨gb428, 1, none⟩) (Kd.R_far (p := ⟨gb428, 0, none⟩) (Kd.R_types HO401.out BK428.out (by decide)) (fun _ hk => hk.2) (.int .i64 t424)) (fun _ hk => hk.2) (.bool t425)) (fun _ hk => hk.2) (.int .i64 t426)) (fun _ h_ => h_.1))) hb); replace HO409 := Aside0.mk (Kd.R_below (by (with_reducible repeat (first | apply Kd.R_alloc | apply Kd.R_drewN | apply Kd.R_drew)); exact (Kd.R_mono (Kd.R_far (p := ⟨gb428, 2, none⟩) (Kd.R_far (p := ⟨gb428, 1, none⟩) (Kd.R_far (p := ⟨gb428, 0, none⟩) (Kd.R_types HO409.out BK428.out (by decide)) (fun _ hk => hk.2) (.int .i64 t424)) (fun _ hk => hk.2) (.bool t425)) (fun _ hk => hk.2) (.int .i64 t426)) (fun _ h_ => h_.1))) hb); replace HO413 := Aside0.mk (Kd.R_below (by (with_reducible repeat (first | apply Kd.R_alloc | apply Kd.R_drewN | apply Kd.R_drew)); exact (Kd.R_mono (Kd.R_far (p := ⟨gb428, 2, none⟩) (Kd.R_far (p := ⟨gb428, 1, none⟩) (Kd.R_far (p := ⟨gb428, 0, none⟩) (Kd.R_types HO413.out BK428.out (by decide)) (fun _ hk => hk.2) (.int .i64 t424)) (fun _ hk => hk.2) (.bool t425)) (fun _ hk => hk.2) (.int .i64 t426)) (fun _ h_ => h_.1))) hb); replace BK354 := nf_ BK354 hb; replace BK428 := Aside0.mk (blk_below (g := gb428) (o := .cells #[.int .i64 t424, .bool t425, .int .i64 t426] 25 (0, 0)) (by (with_reducible repeat (first | refine blk_drewN ?_ _ | refine blk_drew ?_ | refine blk_alloc ?_ _)); refine blk_put (cs := #[.int .i64 t424, .bool t425, .int .i64 0]) ?_ 2 _ rfl; (with_reducible repeat (first | refine blk_drewN ?_ _ | refine blk_drew ?_ | refine blk_alloc ?_ _)); refine blk_put (cs := #[.int .i64 t424, .bool false, .int .i64 0]) ?_ 1 _ rfl; (with_reducible repeat (first | refine blk_drewN ?_ _ | refine blk_drew ?_ | refine blk_alloc ?_ _)); refine blk_put (cs := #[.int .i64 0, .bool false, .int .i64 0]) ?_ 0 _ rfl; (with_reducible repeat (first | refine blk_drewN ?_ _ | refine blk_drew ?_ | refine blk_alloc ?_ _)); exact BK428.out) hb); replace HB := bs hb; (try clear hb)) | ((with_reducible refine gate_dst (N := 71) rfl ?_); (try (refine gate_guard (by rfl) ?_; dsimp only)); refine bx 71 25 #[.int .i64 0, .bool false, .int .i64 0] ?_; intro gb433 hg w116 hbox hb; replace HO385 := Aside0.mk (Kd.R_below (pr HO385) hb); replace HO389 := Aside0.mk (Kd.R_below (pr HO389) hb); replace HO397 := Aside0.mk (Kd.R_below (pr HO397) hb); replace HO401 := Aside0.mk (Kd.R_below (pr HO401) hb); replace HO409 := Aside0.mk (Kd.R_below (pr HO409) hb); replace HO413 := Aside0.mk (Kd.R_below (pr HO413) hb); have BK433 := hbox; have GW433 := gs hg; have GE433 := gs hg; replace HB := bs hb; have NB354_433 := nl BK354 hg; have NB433_354 := ng BK354 hg; replace BK354 := nk BK354 hb; have NB428_433 := nl BK428 hg; have NB433_428 := ng BK428 hg; replace BK428 := nk BK428 hb; clear hb hbox hg; have hnb117 := NB433_354.out; have hnc117 := NB354_433.out; have hnb118 := NB433_428.out; have hnc118 := NB428_433.out; have hcz119_0 := bc BK433 0 (.int .i64 0); have hcz119_1 := bc BK433 1 (.bool false); have hcz119_2 := bc BK433 2 (.int .i64 0); have hfz119_0 := blk_frozen BK433.out 0; have hfz119_1 := blk_frozen BK433.out 1; have hfz119_2 := blk_frozen BK433.out 2)))
         (try simp only [Act.put, List.setIfInBounds_toArray, List.set_cons_zero, List.set_cons_succ])
         go_cut [259, 265, 271, 277, 283, 289, 295, 300, 302, 303, 304, 305, 306, 307, 308, 309, 310, 311, 312, 313, 314, 315, 413] from 9999 (fun _ _ _ _ _ _ _ _ _ _ _ _ _ _ _ _ _ _ _ _ _ _ v413 wc => ∃ (kq : Nat) (x413_95 : Bool), v413 = .bool x413_95 ∧ Aside0 (laws_FnSignalsReachOfAll.j5 kq a3 l4 a5 a6 a7 a8 a9 a11 t382 t383 t390 t394 t395 t402 t406 t407 t414 t415 t416 t420 t421 t427 x413_95 a10_0 a10_1 a10_2 t424 t425 t426 = some r) ∧ Aside0 (kq ≤ kj54) ∧ Aside0 (Kd.R (Kd.int .i64) 3 wc w.heap.size (fun k_ => some k_ ≠ (v396 : Value).ownBlock ∧ some k_ ≠ (v408 : Value).ownBlock) v384 t382) ∧ Aside0 (Kd.R (Kd.int .i64) 3 wc w.heap.size (fun k_ => some k_ ≠ (v384 : Value).ownBlock ∧ some k_ ≠ (v408 : Value).ownBlock) v396 t394) ∧ Aside0 (Kd.R (Kd.int .i64) 3 wc w.heap.size (fun k_ => some k_ ≠ (v384 : Value).ownBlock ∧ some k_ ≠ (v396 : Value).ownBlock) v408 t406) ∧ Aside0 (wc.heap[gb354]? = some (.cells #[.int .i64 a10_0, .bool a10_1, .int .i64 a10_2] 25 (0, 0))) ∧ Aside0 (wc.heap[gb428]? = some (.cells #[.int .i64 t424, .bool t425, .int .i64 t426] 25 (0, 0))) ∧ Aside0 (Below w.heap.size w wc))
         case first => as_aux_lemma =>
          have H := HC96.out
          clear HC96
          by_cases c120 : (t383 != t387) = true
          ·rw [if_pos c120] at H
           exact absurd (Option.some.inj H) (by rw [HRT.out]; decide)
          ·rw [if_neg c120] at H
           have c120b0 : (t383 != t387) = false := by simpa using c120
           (try (have c120b1 : decide (t383 = t387) = true := by simpa using c120))
           (try (have c120b2 : (t383 == t387) = true := by simpa using c120))
           clear c120
           (first | rw [c120b0] | rw [@decide_eq_true _ _ (of_decide_eq_true c120b1)] | rw [@decide_eq_false _ _ (of_decide_eq_false c120b1)] | (simp only [i64_w, i32_w]; rw [c120b0]) | skip)
           replace H := Option.bind_eq_some_iff.mp H
           obtain ⟨t434, A1210, H⟩ := H
           (try dsimp only at H)
           have A121 := Aside0.mk A1210
           clear A1210
           by_cases c122 : t434 = true
           ·subst c122
            rw [if_pos rfl] at H
            by_cases c123 : (t391 != t393) = true
            ·rw [if_pos c123] at H
             exact absurd (Option.some.inj H) (by rw [HRT.out]; decide)
            ·rw [if_neg c123] at H
             have c123b0 : (t391 != t393) = false := by simpa using c123
             (try (have c123b1 : decide (t391 = t393) = true := by simpa using c123))
             (try (have c123b2 : (t391 == t393) = true := by simpa using c123))
             clear c123
             by_cases c124 : t390 = t392
             ·rw [if_pos c124] at H
              have c124b0 : (t390 == t392) = true := beq_iff_eq.mpr c124
              have c124b1 : (t390 != t392) = false := bne_eq_false_iff_eq.mpr c124
              clear c124
              by_cases c125 : (t395 != t399) = true
              ·rw [if_pos c125] at H
               exact absurd (Option.some.inj H) (by rw [HRT.out]; decide)
              ·rw [if_neg c125] at H
               have c125b0 : (t395 != t399) = false := by simpa using c125
               (try (have c125b1 : decide (t395 = t399) = true := by simpa using c125))
               (try (have c125b2 : (t395 == t399) = true := by simpa using c125))
               clear c125
               replace H := Option.bind_eq_some_iff.mp H
               obtain ⟨t435, A1260, H⟩ := H
               (try dsimp only at H)
               have A126 := Aside0.mk A1260
               clear A1260
               by_cases c127 : t435 = true
               ·subst c127
                rw [if_pos rfl] at H
                by_cases c128 : (t403 != t405) = true
                ·rw [if_pos c128] at H
                 exact absurd (Option.some.inj H) (by rw [HRT.out]; decide)
                ·rw [if_neg c128] at H
                 have c128b0 : (t403 != t405) = false := by simpa using c128
                 (try (have c128b1 : decide (t403 = t405) = true := by simpa using c128))
                 (try (have c128b2 : (t403 == t405) = true := by simpa using c128))
                 clear c128
                 by_cases c129 : t402 = t404
                 ·rw [if_pos c129] at H
                  have c129b0 : (t402 == t404) = true := beq_iff_eq.mpr c129
                  have c129b1 : (t402 != t404) = false := bne_eq_false_iff_eq.mpr c129
                  clear c129
                  by_cases c130 : (t407 != t411) = true
                  ·rw [if_pos c130] at H
                   exact absurd (Option.some.inj H) (by rw [HRT.out]; decide)
                  ·rw [if_neg c130] at H
                   have c130b0 : (t407 != t411) = false := by simpa using c130
                   (try (have c130b1 : decide (t407 = t411) = true := by simpa using c130))
                   (try (have c130b2 : (t407 == t411) = true := by simpa using c130))
                   clear c130
                   replace H := Option.bind_eq_some_iff.mp H
                   obtain ⟨t436, A1310, H⟩ := H
                   (try dsimp only at H)
                   have A131 := Aside0.mk A1310
                   clear A1310
                   by_cases c132 : t436 = true
                   ·subst c132
                    rw [if_pos rfl] at H
                    by_cases c133 : (t416 != t419) = true
                    ·rw [if_pos c133] at H
                     exact absurd (Option.some.inj H) (by rw [HRT.out]; decide)
                    ·rw [if_neg c133] at H
                     have c133b0 : (t416 != t419) = false := by simpa using c133
                     (try (have c133b1 : decide (t416 = t419) = true := by simpa using c133))
                     (try (have c133b2 : (t416 == t419) = true := by simpa using c133))
                     clear c133
                     by_cases c134 : t414 = t417
                     ·rw [if_pos c134] at H
                      have c134b0 : (t414 == t417) = true := beq_iff_eq.mpr c134
                      have c134b1 : (t414 != t417) = false := bne_eq_false_iff_eq.mpr c134
                      clear c134
                      by_cases c135 : t415 = t418
                      ·rw [if_pos c135] at H
                       have c135b0 : (t415 == t418) = true := beq_iff_eq.mpr c135
                       have c135b1 : (t415 != t418) = false := bne_eq_false_iff_eq.mpr c135
                       clear c135
                       by_cases c136 : (t421 != t423) = true
                       ·rw [if_pos c136] at H
                        exact absurd (Option.some.inj H) (by rw [HRT.out]; decide)
                       ·rw [if_neg c136] at H
                        have c136b0 : (t421 != t423) = false := by simpa using c136
                        (try (have c136b1 : decide (t421 = t423) = true := by simpa using c136))
                        (try (have c136b2 : (t421 == t423) = true := by simpa using c136))
                        clear c136
                        by_cases c137 : t420.toList = t422.toList
                        ·rw [if_pos c137] at H
                         have c137b0 : (t420.toList == t422.toList) = true := beq_iff_eq.mpr c137
                         have c137b1 : (t420.toList != t422.toList) = false := bne_eq_false_iff_eq.mpr c137
                         clear c137
                         by_cases c138 : (t427 != t432) = true
                         ·rw [if_pos c138] at H
                          exact absurd (Option.some.inj H) (by rw [HRT.out]; decide)
                         ·rw [if_neg c138] at H
                          have c138b0 : (t427 != t432) = false := by simpa using c138
                          (try (have c138b1 : decide (t427 = t432) = true := by simpa using c138))
                          (try (have c138b2 : (t427 == t432) = true := by simpa using c138))
                          clear c138
                          by_cases c139 : (!(t424 == t429) || (!(t425 == t430) || (!(t426 == t431)))) = true
                          ·rw [if_pos c139] at H
                           exact absurd (Option.some.inj H) (by rw [HRT.out]; decide)
                          ·rw [if_neg c139] at H
                           have c139b0 : (!(t424 == t429) || (!(t425 == t430) || (!(t426 == t431)))) = false := by simpa using c139
                           clear c139
                           by_cases c140 : (t391 != t383) = true
                           ·rw [if_pos c140] at H
                            exact absurd (Option.some.inj H) (by rw [HRT.out]; decide)
                           ·rw [if_neg c140] at H
                            have c140b0 : (t391 != t383) = false := by simpa using c140
                            (try (have c140b1 : decide (t391 = t383) = true := by simpa using c140))
                            (try (have c140b2 : (t391 == t383) = true := by simpa using c140))
                            clear c140
                            by_cases c141 : t395 = true
                            ·subst c141
                             rw [if_pos rfl] at H
                             have H' := Aside0.mk H
                             clear H
                             obtain ⟨Ao142, co142, eo142⟩ := Kd.R_slice HO385.out
                             subst eo142
                             obtain ⟨Ao143, co143, eo143⟩ := Kd.R_slice HO389.out
                             subst eo143
                             go_wp2_with (first | (go_at_call 8; (with_reducible refine (laws_vSame.calls kj54 _ _ t382 _ _ t386 true _ ?side1 ?side2 ?side3 ?side4 A121.out).mono ?_); (case side1 => refine (Kd.R_reads' (e := 3) (base := w.heap.size) (ok := fun k_ => (((((True ∧ some k_ ≠ (.slice Ao143 t386.length co143 : Value).ownBlock) ∧ some k_ ≠ (v396 : Value).ownBlock) ∧ some k_ ≠ (v400 : Value).ownBlock) ∧ some k_ ≠ (v408 : Value).ownBlock) ∧ some k_ ≠ (v412 : Value).ownBlock)) (n := t382.length) (c := co142) ?_).2.2; exact (by (with_reducible repeat (first | apply Kd.R_alloc | apply Kd.R_drewN | apply Kd.R_drew)); exact (Kd.R_mono (Kd.R_far (p := ⟨gb433, 2, none⟩) (Kd.R_far (p := ⟨gb433, 1, none⟩) (Kd.R_far (p := ⟨gb433, 0, none⟩) (Kd.R_types HO385.out BK433.out (by decide)) (fun _ hk => hk.2) (.int .i64 t429)) (fun _ hk => hk.2) (.bool t430)) (fun _ hk => hk.2) (.int .i64 t431)) (fun _ h_ => h_.1)))); (case side2 => exact (Kd.R_reads' HO385.out).2.1); (case side3 => refine (Kd.R_reads' (e := 3) (base := w.heap.size) (ok := fun k_ => (((((True ∧ some k_ ≠ (.slice Ao142 t382.length co142 : Value).ownBlock) ∧ some k_ ≠ (v396 : Value).ownBlock) ∧ some k_ ≠ (v400 : Value).ownBlock) ∧ some k_ ≠ (v408 : Value).ownBlock) ∧ some k_ ≠ (v412 : Value).ownBlock)) (n := t386.length) (c := co143) ?_).2.2; exact (by (with_reducible repeat (first | apply Kd.R_alloc | apply Kd.R_drewN | apply Kd.R_drew)); exact (Kd.R_mono (Kd.R_far (p := ⟨gb433, 2, none⟩) (Kd.R_far (p := ⟨gb433, 1, none⟩) (Kd.R_far (p := ⟨gb433, 0, none⟩) (Kd.R_types HO389.out BK433.out (by decide)) (fun _ hk => hk.2) (.int .i64 t429)) (fun _ hk => hk.2) (.bool t430)) (fun _ hk => hk.2) (.int .i64 t431)) (fun _ h_ => h_.1)))); (case side4 => exact (Kd.R_reads' HO389.out).2.1); rintro e w' ⟨rfl, ⟨nd, rfl⟩⟩; (try first | exact ⟨rfl, _, World.drewN_drewN _ _ _⟩ | exact ⟨rfl, _, Eq.trans (World.drewN_drewN _ _ _) (congrArg (World.drewN _) (Nat.add_assoc _ _ _))⟩); obtain ⟨Ao144, co144, eo144⟩ := Kd.R_slice HO397.out; subst eo144; obtain ⟨Ao145, co145, eo145⟩ := Kd.R_slice HO401.out; subst eo145) | (go_at_call 8; (with_reducible refine (laws_vSame.calls kj54 _ _ t394 _ _ t398 true _ ?side1 ?side2 ?side3 ?side4 A126.out).mono ?_); (case side1 => refine (Kd.R_reads' (e := 3) (base := w.heap.size) (ok := fun k_ => (((((True ∧ some k_ ≠ (.slice Ao142 t382.length co142 : Value).ownBlock) ∧ some k_ ≠ (.slice Ao143 t386.length co143 : Value).ownBlock) ∧ some k_ ≠ (.slice Ao145 t398.length co145 : Value).ownBlock) ∧ some k_ ≠ (v408 : Value).ownBlock) ∧ some k_ ≠ (v412 : Value).ownBlock)) (n := t394.length) (c := co144) ?_).2.2; exact (by (with_reducible repeat (first | apply Kd.R_alloc | apply Kd.R_drewN | apply Kd.R_drew)); exact (Kd.R_mono (Kd.R_far (p := ⟨gb433, 2, none⟩) (Kd.R_far (p := ⟨gb433, 1, none⟩) (Kd.R_far (p := ⟨gb433, 0, none⟩) (Kd.R_types HO397.out BK433.out (by decide)) (fun _ hk => hk.2) (.int .i64 t429)) (fun _ hk => hk.2) (.bool t430)) (fun _ hk => hk.2) (.int .i64 t431)) (fun _ h_ => h_.1)))); (case side2 => exact (Kd.R_reads' HO397.out).2.1); (case side3 => refine (Kd.R_reads' (e := 3) (base := w.heap.size) (ok := fun k_ => (((((True ∧ some k_ ≠ (.slice Ao142 t382.length co142 : Value).ownBlock) ∧ some k_ ≠ (.slice Ao143 t386.length co143 : Value).ownBlock) ∧ some k_ ≠ (.slice Ao144 t394.length co144 : Value).ownBlock) ∧ some k_ ≠ (v408 : Value).ownBlock) ∧ some k_ ≠ (v412 : Value).ownBlock)) (n := t398.length) (c := co145) ?_).2.2; exact (by (with_reducible repeat (first | apply Kd.R_alloc | apply Kd.R_drewN | apply Kd.R_drew)); exact (Kd.R_mono (Kd.R_far (p := ⟨gb433, 2, none⟩) (Kd.R_far (p := ⟨gb433, 1, none⟩) (Kd.R_far (p := ⟨gb433, 0, none⟩) (Kd.R_types HO401.out BK433.out (by decide)) (fun _ hk => hk.2) (.int .i64 t429)) (fun _ hk => hk.2) (.bool t430)) (fun _ hk => hk.2) (.int .i64 t431)) (fun _ h_ => h_.1)))); (case side4 => exact (Kd.R_reads' HO401.out).2.1); rintro e w' ⟨rfl, ⟨nd, rfl⟩⟩; (try first | exact ⟨rfl, _, World.drewN_drewN _ _ _⟩ | exact ⟨rfl, _, Eq.trans (World.drewN_drewN _ _ _) (congrArg (World.drewN _) (Nat.add_assoc _ _ _))⟩); obtain ⟨Ao146, co146, eo146⟩ := Kd.R_slice HO409.out; subst eo146; obtain ⟨Ao147, co147, eo147⟩ := Kd.R_slice HO413.out; subst eo147) | (go_at_call 8; (with_reducible refine (laws_vSame.calls kj54 _ _ t406 _ _ t410 true _ ?side1 ?side2 ?side3 ?side4 A131.out).mono ?_); (case side1 => refine (Kd.R_reads' (e := 3) (base := w.heap.size) (ok := fun k_ => (((((True ∧ some k_ ≠ (.slice Ao142 t382.length co142 : Value).ownBlock) ∧ some k_ ≠ (.slice Ao143 t386.length co143 : Value).ownBlock) ∧ some k_ ≠ (.slice Ao144 t394.length co144 : Value).ownBlock) ∧ some k_ ≠ (.slice Ao145 t398.length co145 : Value).ownBlock) ∧ some k_ ≠ (.slice Ao147 t410.length co147 : Value).ownBlock)) (n := t406.length) (c := co146) ?_).2.2; exact (by (with_reducible repeat (first | apply Kd.R_alloc | apply Kd.R_drewN | apply Kd.R_drew)); exact (Kd.R_mono (Kd.R_far (p := ⟨gb433, 2, none⟩) (Kd.R_far (p := ⟨gb433, 1, none⟩) (Kd.R_far (p := ⟨gb433, 0, none⟩) (Kd.R_types HO409.out BK433.out (by decide)) (fun _ hk => hk.2) (.int .i64 t429)) (fun _ hk => hk.2) (.bool t430)) (fun _ hk => hk.2) (.int .i64 t431)) (fun _ h_ => h_.1)))); (case side2 => exact (Kd.R_reads' HO409.out).2.1); (case side3 => refine (Kd.R_reads' (e := 3) (base := w.heap.size) (ok := fun k_ => (((((True ∧ some k_ ≠ (.slice Ao142 t382.length co142 : Value).ownBlock) ∧ some k_ ≠ (.slice Ao143 t386.length co143 : Value).ownBlock) ∧ some k_ ≠ (.slice Ao144 t394.length co144 : Value).ownBlock) ∧ some k_ ≠ (.slice Ao145 t398.length co145 : Value).ownBlock) ∧ some k_ ≠ (.slice Ao146 t406.length co146 : Value).ownBlock)) (n := t410.length) (c := co147) ?_).2.2; exact (by (with_reducible repeat (first | apply Kd.R_alloc | apply Kd.R_drewN | apply Kd.R_drew)); exact (Kd.R_mono (Kd.R_far (p := ⟨gb433, 2, none⟩) (Kd.R_far (p := ⟨gb433, 1, none⟩) (Kd.R_far (p := ⟨gb433, 0, none⟩) (Kd.R_types HO413.out BK433.out (by decide)) (fun _ hk => hk.2) (.int .i64 t429)) (fun _ hk => hk.2) (.bool t430)) (fun _ hk => hk.2) (.int .i64 t431)) (fun _ h_ => h_.1)))); (case side4 => exact (Kd.R_reads' HO413.out).2.1); rintro e w' ⟨rfl, ⟨nd, rfl⟩⟩; (try first | exact ⟨rfl, _, World.drewN_drewN _ _ _⟩ | exact ⟨rfl, _, Eq.trans (World.drewN_drewN _ _ _) (congrArg (World.drewN _) (Nat.add_assoc _ _ _))⟩); have hnb148 := NB428_354.out; have hnc148 := NB354_428.out; have hnb149 := NB428_433.out; have hnc149 := NB433_428.out; have hcz150_0 := bc BK428 0 (.int .i64 t424); have hcz150_1 := bc BK428 1 (.bool t425); have hcz150_2 := bc BK428 2 (.int .i64 t426); have hfz150_0 := blk_frozen BK428.out 0; have hfz150_1 := blk_frozen BK428.out 1; have hfz150_2 := blk_frozen BK428.out 2; have hnb151 := NB433_354.out; have hnc151 := NB354_433.out; have hcz152_0 := bc BK433 0 (.int .i64 0); have hcz152_1 := bc BK433 1 (.bool false); have hcz152_2 := bc BK433 2 (.int .i64 0); have hfz152_0 := blk_frozen BK433.out 0; have hfz152_1 := blk_frozen BK433.out 1; have hfz152_2 := blk_frozen BK433.out 2))
                             repeat (go_quiet (first | (go_at_call 8; (with_reducible refine (laws_vSame.calls kj54 _ _ t382 _ _ t386 true _ ?side1 ?side2 ?side3 ?side4 A121.out).mono ?_); (case side1 => refine (Kd.R_reads' (e := 3) (base := w.heap.size) (ok := fun k_ => (((((True ∧ some k_ ≠ (.slice Ao143 t386.length co143 : Value).ownBlock) ∧ some k_ ≠ (v396 : Value).ownBlock) ∧ some k_ ≠ (v400 : Value).ownBlock) ∧ some k_ ≠ (v408 : Value).ownBlock) ∧ some k_ ≠ (v412 : Value).ownBlock)) (n := t382.length) (c := co142) ?_).2.2; exact (by (with_reducible repeat (first | apply Kd.R_alloc | apply Kd.R_drewN | apply Kd.R_drew)); exact (Kd.R_mono (Kd.R_far (p := ⟨gb433, 2, none⟩) (Kd.R_far (p := ⟨gb433, 1, none⟩) (Kd.R_far (p := ⟨gb433, 0, none⟩) (Kd.R_types HO385.out BK433.out (by decide)) (fun _ hk => hk.2) (.int .i64 t429)) (fun _ hk => hk.2) (.bool t430)) (fun _ hk => hk.2) (.int .i64 t431)) (fun _ h_ => h_.1)))); (case side2 => exact (Kd.R_reads' HO385.out).2.1); (case side3 => refine (Kd.R_reads' (e := 3) (base := w.heap.size) (ok := fun k_ => (((((True ∧ some k_ ≠ (.slice Ao142 t382.length co142 : Value).ownBlock) ∧ some k_ ≠ (v396 : Value).ownBlock) ∧ some k_ ≠ (v400 : Value).ownBlock) ∧ some k_ ≠ (v408 : Value).ownBlock) ∧ some k_ ≠ (v412 : Value).ownBlock)) (n := t386.length) (c := co143) ?_).2.2; exact (by (with_reducible repeat (first | apply Kd.R_alloc | apply Kd.R_drewN | apply Kd.R_drew)); exact (Kd.R_mono (Kd.R_far (p := ⟨gb433, 2, none⟩) (Kd.R_far (p := ⟨gb433, 1, none⟩) (Kd.R_far (p := ⟨gb433, 0, none⟩) (Kd.R_types HO389.out BK433.out (by decide)) (fun _ hk => hk.2) (.int .i64 t429)) (fun _ hk => hk.2) (.bool t430)) (fun _ hk => hk.2) (.int .i64 t431)) (fun _ h_ => h_.1)))); (case side4 => exact (Kd.R_reads' HO389.out).2.1); rintro e w' ⟨rfl, ⟨nd, rfl⟩⟩; (try first | exact ⟨rfl, _, World.drewN_drewN _ _ _⟩ | exact ⟨rfl, _, Eq.trans (World.drewN_drewN _ _ _) (congrArg (World.drewN _) (Nat.add_assoc _ _ _))⟩); obtain ⟨Ao144, co144, eo144⟩ := Kd.R_slice HO397.out; subst eo144; obtain ⟨Ao145, co145, eo145⟩ := Kd.R_slice HO401.out; subst eo145) | (go_at_call 8; (with_reducible refine (laws_vSame.calls kj54 _ _ t394 _ _ t398 true _ ?side1 ?side2 ?side3 ?side4 A126.out).mono ?_); (case side1 => refine (Kd.R_reads' (e := 3) (base := w.heap.size) (ok := fun k_ => (((((True ∧ some k_ ≠ (.slice Ao142 t382.length co142 : Value).ownBlock) ∧ some k_ ≠ (.slice Ao143 t386.length co143 : Value).ownBlock) ∧ some k_ ≠ (.slice Ao145 t398.length co145 : Value).ownBlock) ∧ some k_ ≠ (v408 : Value).ownBlock) ∧ some k_ ≠ (v412 : Value).ownBlock)) (n := t394.length) (c := co144) ?_).2.2; exact (by (with_reducible repeat (first | apply Kd.R_alloc | apply Kd.R_drewN | apply Kd.R_drew)); exact (Kd.R_mono (Kd.R_far (p := ⟨gb433, 2, none⟩) (Kd.R_far (p := ⟨gb433, 1, none⟩) (Kd.R_far (p := ⟨gb433, 0, none⟩) (Kd.R_types HO397.out BK433.out (by decide)) (fun _ hk => hk.2) (.int .i64 t429)) (fun _ hk => hk.2) (.bool t430)) (fun _ hk => hk.2) (.int .i64 t431)) (fun _ h_ => h_.1)))); (case side2 => exact (Kd.R_reads' HO397.out).2.1); (case side3 => refine (Kd.R_reads' (e := 3) (base := w.heap.size) (ok := fun k_ => (((((True ∧ some k_ ≠ (.slice Ao142 t382.length co142 : Value).ownBlock) ∧ some k_ ≠ (.slice Ao143 t386.length co143 : Value).ownBlock) ∧ some k_ ≠ (.slice Ao144 t394.length co144 : Value).ownBlock) ∧ some k_ ≠ (v408 : Value).ownBlock) ∧ some k_ ≠ (v412 : Value).ownBlock)) (n := t398.length) (c := co145) ?_).2.2; exact (by (with_reducible repeat (first | apply Kd.R_alloc | apply Kd.R_drewN | apply Kd.R_drew)); exact (Kd.R_mono (Kd.R_far (p := ⟨gb433, 2, none⟩) (Kd.R_far (p := ⟨gb433, 1, none⟩) (Kd.R_far (p := ⟨gb433, 0, none⟩) (Kd.R_types HO401.out BK433.out (by decide)) (fun _ hk => hk.2) (.int .i64 t429)) (fun _ hk => hk.2) (.bool t430)) (fun _ hk => hk.2) (.int .i64 t431)) (fun _ h_ => h_.1)))); (case side4 => exact (Kd.R_reads' HO401.out).2.1); rintro e w' ⟨rfl, ⟨nd, rfl⟩⟩; (try first | exact ⟨rfl, _, World.drewN_drewN _ _ _⟩ | exact ⟨rfl, _, Eq.trans (World.drewN_drewN _ _ _) (congrArg (World.drewN _) (Nat.add_assoc _ _ _))⟩); obtain ⟨Ao146, co146, eo146⟩ := Kd.R_slice HO409.out; subst eo146; obtain ⟨Ao147, co147, eo147⟩ := Kd.R_slice HO413.out; subst eo147) | (go_at_call 8; (with_reducible refine (laws_vSame.calls kj54 _ _ t406 _ _ t410 true _ ?side1 ?side2 ?side3 ?side4 A131.out).mono ?_); (case side1 => refine (Kd.R_reads' (e := 3) (base := w.heap.size) (ok := fun k_ => (((((True ∧ some k_ ≠ (.slice Ao142 t382.length co142 : Value).ownBlock) ∧ some k_ ≠ (.slice Ao143 t386.length co143 : Value).ownBlock) ∧ some k_ ≠ (.slice Ao144 t394.length co144 : Value).ownBlock) ∧ some k_ ≠ (.slice Ao145 t398.length co145 : Value).ownBlock) ∧ some k_ ≠ (.slice Ao147 t410.length co147 : Value).ownBlock)) (n := t406.length) (c := co146) ?_).2.2; exact (by (with_reducible repeat (first | apply Kd.R_alloc | apply Kd.R_drewN | apply Kd.R_drew)); exact (Kd.R_mono (Kd.R_far (p := ⟨gb433, 2, none⟩) (Kd.R_far (p := ⟨gb433, 1, none⟩) (Kd.R_far (p := ⟨gb433, 0, none⟩) (Kd.R_types HO409.out BK433.out (by decide)) (fun _ hk => hk.2) (.int .i64 t429)) (fun _ hk => hk.2) (.bool t430)) (fun _ hk => hk.2) (.int .i64 t431)) (fun _ h_ => h_.1)))); (case side2 => exact (Kd.R_reads' HO409.out).2.1); (case side3 => refine (Kd.R_reads' (e := 3) (base := w.heap.size) (ok := fun k_ => (((((True ∧ some k_ ≠ (.slice Ao142 t382.length co142 : Value).ownBlock) ∧ some k_ ≠ (.slice Ao143 t386.length co143 : Value).ownBlock) ∧ some k_ ≠ (.slice Ao144 t394.length co144 : Value).ownBlock) ∧ some k_ ≠ (.slice Ao145 t398.length co145 : Value).ownBlock) ∧ some k_ ≠ (.slice Ao146 t406.length co146 : Value).ownBlock)) (n := t410.length) (c := co147) ?_).2.2; exact (by (with_reducible repeat (first | apply Kd.R_alloc | apply Kd.R_drewN | apply Kd.R_drew)); exact (Kd.R_mono (Kd.R_far (p := ⟨gb433, 2, none⟩) (Kd.R_far (p := ⟨gb433, 1, none⟩) (Kd.R_far (p := ⟨gb433, 0, none⟩) (Kd.R_types HO413.out BK433.out (by decide)) (fun _ hk => hk.2) (.int .i64 t429)) (fun _ hk => hk.2) (.bool t430)) (fun _ hk => hk.2) (.int .i64 t431)) (fun _ h_ => h_.1)))); (case side4 => exact (Kd.R_reads' HO413.out).2.1); rintro e w' ⟨rfl, ⟨nd, rfl⟩⟩; (try first | exact ⟨rfl, _, World.drewN_drewN _ _ _⟩ | exact ⟨rfl, _, Eq.trans (World.drewN_drewN _ _ _) (congrArg (World.drewN _) (Nat.add_assoc _ _ _))⟩); have hnb148 := NB428_354.out; have hnc148 := NB354_428.out; have hnb149 := NB428_433.out; have hnc149 := NB433_428.out; have hcz150_0 := bc BK428 0 (.int .i64 t424); have hcz150_1 := bc BK428 1 (.bool t425); have hcz150_2 := bc BK428 2 (.int .i64 t426); have hfz150_0 := blk_frozen BK428.out 0; have hfz150_1 := blk_frozen BK428.out 1; have hfz150_2 := blk_frozen BK428.out 2; have hnb151 := NB433_354.out; have hnc151 := NB354_433.out; have hcz152_0 := bc BK433 0 (.int .i64 0); have hcz152_1 := bc BK433 1 (.bool false); have hcz152_2 := bc BK433 2 (.int .i64 0); have hfz152_0 := blk_frozen BK433.out 0; have hfz152_1 := blk_frozen BK433.out 1; have hfz152_2 := blk_frozen BK433.out 2)); try go_wp2_with (first | (go_at_call 8; (with_reducible refine (laws_vSame.calls kj54 _ _ t382 _ _ t386 true _ ?side1 ?side2 ?side3 ?side4 A121.out).mono ?_); (case side1 => refine (Kd.R_reads' (e := 3) (base := w.heap.size) (ok := fun k_ => (((((True ∧ some k_ ≠ (.slice Ao143 t386.length co143 : Value).ownBlock) ∧ some k_ ≠ (v396 : Value).ownBlock) ∧ some k_ ≠ (v400 : Value).ownBlock) ∧ some k_ ≠ (v408 : Value).ownBlock) ∧ some k_ ≠ (v412 : Value).ownBlock)) (n := t382.length) (c := co142) ?_).2.2; exact (by (with_reducible repeat (first | apply Kd.R_alloc | apply Kd.R_drewN | apply Kd.R_drew)); exact (Kd.R_mono (Kd.R_far (p := ⟨gb433, 2, none⟩) (Kd.R_far (p := ⟨gb433, 1, none⟩) (Kd.R_far (p := ⟨gb433, 0, none⟩) (Kd.R_types HO385.out BK433.out (by decide)) (fun _ hk => hk.2) (.int .i64 t429)) (fun _ hk => hk.2) (.bool t430)) (fun _ hk => hk.2) (.int .i64 t431)) (fun _ h_ => h_.1)))); (case side2 => exact (Kd.R_reads' HO385.out).2.1); (case side3 => refine (Kd.R_reads' (e := 3) (base := w.heap.size) (ok := fun k_ => (((((True ∧ some k_ ≠ (.slice Ao142 t382.length co142 : Value).ownBlock) ∧ some k_ ≠ (v396 : Value).ownBlock) ∧ some k_ ≠ (v400 : Value).ownBlock) ∧ some k_ ≠ (v408 : Value).ownBlock) ∧ some k_ ≠ (v412 : Value).ownBlock)) (n := t386.length) (c := co143) ?_).2.2; exact (by (with_reducible repeat (first | apply Kd.R_alloc | apply Kd.R_drewN | apply Kd.R_drew)); exact (Kd.R_mono (Kd.R_far (p := ⟨gb433, 2, none⟩) (Kd.R_far (p := ⟨gb433, 1, none⟩) (Kd.R_far (p := ⟨gb433, 0, none⟩) (Kd.R_types HO389.out BK433.out (by decide)) (fun _ hk => hk.2) (.int .i64 t429)) (fun _ hk => hk.2) (.bool t430)) (fun _ hk => hk.2) (.int .i64 t431)) (fun _ h_ => h_.1)))); (case side4 => exact (Kd.R_reads' HO389.out).2.1); rintro e w' ⟨rfl, ⟨nd, rfl⟩⟩; (try first | exact ⟨rfl, _, World.drewN_drewN _ _ _⟩ | exact ⟨rfl, _, Eq.trans (World.drewN_drewN _ _ _) (congrArg (World.drewN _) (Nat.add_assoc _ _ _))⟩); obtain ⟨Ao144, co144, eo144⟩ := Kd.R_slice HO397.out; subst eo144; obtain ⟨Ao145, co145, eo145⟩ := Kd.R_slice HO401.out; subst eo145) | (go_at_call 8; (with_reducible refine (laws_vSame.calls kj54 _ _ t394 _ _ t398 true _ ?side1 ?side2 ?side3 ?side4 A126.out).mono ?_); (case side1 => refine (Kd.R_reads' (e := 3) (base := w.heap.size) (ok := fun k_ => (((((True ∧ some k_ ≠ (.slice Ao142 t382.length co142 : Value).ownBlock) ∧ some k_ ≠ (.slice Ao143 t386.length co143 : Value).ownBlock) ∧ some k_ ≠ (.slice Ao145 t398.length co145 : Value).ownBlock) ∧ some k_ ≠ (v408 : Value).ownBlock) ∧ some k_ ≠ (v412 : Value).ownBlock)) (n := t394.length) (c := co144) ?_).2.2; exact (by (with_reducible repeat (first | apply Kd.R_alloc | apply Kd.R_drewN | apply Kd.R_drew)); exact (Kd.R_mono (Kd.R_far (p := ⟨gb433, 2, none⟩) (Kd.R_far (p := ⟨gb433, 1, none⟩) (Kd.R_far (p := ⟨gb433, 0, none⟩) (Kd.R_types HO397.out BK433.out (by decide)) (fun _ hk => hk.2) (.int .i64 t429)) (fun _ hk => hk.2) (.bool t430)) (fun _ hk => hk.2) (.int .i64 t431)) (fun _ h_ => h_.1)))); (case side2 => exact (Kd.R_reads' HO397.out).2.1); (case side3 => refine (Kd.R_reads' (e := 3) (base := w.heap.size) (ok := fun k_ => (((((True ∧ some k_ ≠ (.slice Ao142 t382.length co142 : Value).ownBlock) ∧ some k_ ≠ (.slice Ao143 t386.length co143 : Value).ownBlock) ∧ some k_ ≠ (.slice Ao144 t394.length co144 : Value).ownBlock) ∧ some k_ ≠ (v408 : Value).ownBlock) ∧ some k_ ≠ (v412 : Value).ownBlock)) (n := t398.length) (c := co145) ?_).2.2; exact (by (with_reducible repeat (first | apply Kd.R_alloc | apply Kd.R_drewN | apply Kd.R_drew)); exact (Kd.R_mono (Kd.R_far (p := ⟨gb433, 2, none⟩) (Kd.R_far (p := ⟨gb433, 1, none⟩) (Kd.R_far (p := ⟨gb433, 0, none⟩) (Kd.R_types HO401.out BK433.out (by decide)) (fun _ hk => hk.2) (.int .i64 t429)) (fun _ hk => hk.2) (.bool t430)) (fun _ hk => hk.2) (.int .i64 t431)) (fun _ h_ => h_.1)))); (case side4 => exact (Kd.R_reads' HO401.out).2.1); rintro e w' ⟨rfl, ⟨nd, rfl⟩⟩; (try first | exact ⟨rfl, _, World.drewN_drewN _ _ _⟩ | exact ⟨rfl, _, Eq.trans (World.drewN_drewN _ _ _) (congrArg (World.drewN _) (Nat.add_assoc _ _ _))⟩); obtain ⟨Ao146, co146, eo146⟩ := Kd.R_slice HO409.out; subst eo146; obtain ⟨Ao147, co147, eo147⟩ := Kd.R_slice HO413.out; subst eo147) | (go_at_call 8; (with_reducible refine (laws_vSame.calls kj54 _ _ t406 _ _ t410 true _ ?side1 ?side2 ?side3 ?side4 A131.out).mono ?_); (case side1 => refine (Kd.R_reads' (e := 3) (base := w.heap.size) (ok := fun k_ => (((((True ∧ some k_ ≠ (.slice Ao142 t382.length co142 : Value).ownBlock) ∧ some k_ ≠ (.slice Ao143 t386.length co143 : Value).ownBlock) ∧ some k_ ≠ (.slice Ao144 t394.length co144 : Value).ownBlock) ∧ some k_ ≠ (.slice Ao145 t398.length co145 : Value).ownBlock) ∧ some k_ ≠ (.slice Ao147 t410.length co147 : Value).ownBlock)) (n := t406.length) (c := co146) ?_).2.2; exact (by (with_reducible repeat (first | apply Kd.R_alloc | apply Kd.R_drewN | apply Kd.R_drew)); exact (Kd.R_mono (Kd.R_far (p := ⟨gb433, 2, none⟩) (Kd.R_far (p := ⟨gb433, 1, none⟩) (Kd.R_far (p := ⟨gb433, 0, none⟩) (Kd.R_types HO409.out BK433.out (by decide)) (fun _ hk => hk.2) (.int .i64 t429)) (fun _ hk => hk.2) (.bool t430)) (fun _ hk => hk.2) (.int .i64 t431)) (fun _ h_ => h_.1)))); (case side2 => exact (Kd.R_reads' HO409.out).2.1); (case side3 => refine (Kd.R_reads' (e := 3) (base := w.heap.size) (ok := fun k_ => (((((True ∧ some k_ ≠ (.slice Ao142 t382.length co142 : Value).ownBlock) ∧ some k_ ≠ (.slice Ao143 t386.length co143 : Value).ownBlock) ∧ some k_ ≠ (.slice Ao144 t394.length co144 : Value).ownBlock) ∧ some k_ ≠ (.slice Ao145 t398.length co145 : Value).ownBlock) ∧ some k_ ≠ (.slice Ao146 t406.length co146 : Value).ownBlock)) (n := t410.length) (c := co147) ?_).2.2; exact (by (with_reducible repeat (first | apply Kd.R_alloc | apply Kd.R_drewN | apply Kd.R_drew)); exact (Kd.R_mono (Kd.R_far (p := ⟨gb433, 2, none⟩) (Kd.R_far (p := ⟨gb433, 1, none⟩) (Kd.R_far (p := ⟨gb433, 0, none⟩) (Kd.R_types HO413.out BK433.out (by decide)) (fun _ hk => hk.2) (.int .i64 t429)) (fun _ hk => hk.2) (.bool t430)) (fun _ hk => hk.2) (.int .i64 t431)) (fun _ h_ => h_.1)))); (case side4 => exact (Kd.R_reads' HO413.out).2.1); rintro e w' ⟨rfl, ⟨nd, rfl⟩⟩; (try first | exact ⟨rfl, _, World.drewN_drewN _ _ _⟩ | exact ⟨rfl, _, Eq.trans (World.drewN_drewN _ _ _) (congrArg (World.drewN _) (Nat.add_assoc _ _ _))⟩); have hnb148 := NB428_354.out; have hnc148 := NB354_428.out; have hnb149 := NB428_433.out; have hnc149 := NB433_428.out; have hcz150_0 := bc BK428 0 (.int .i64 t424); have hcz150_1 := bc BK428 1 (.bool t425); have hcz150_2 := bc BK428 2 (.int .i64 t426); have hfz150_0 := blk_frozen BK428.out 0; have hfz150_1 := blk_frozen BK428.out 1; have hfz150_2 := blk_frozen BK428.out 2; have hnb151 := NB433_354.out; have hnc151 := NB354_433.out; have hcz152_0 := bc BK433 0 (.int .i64 0); have hcz152_1 := bc BK433 1 (.bool false); have hcz152_2 := bc BK433 2 (.int .i64 0); have hfz152_0 := blk_frozen BK433.out 0; have hfz152_1 := blk_frozen BK433.out 1; have hfz152_2 := blk_frozen BK433.out 2)))
                             go_meet
                             case rel => exact ⟨_, (!t403), (rs), H', ⟨by have := HJ12.out; have := HJ21.out; have := HJ54.out; first | omega | exact Nat.le_refl _⟩, ⟨by (with_reducible repeat (first | apply Kd.R_alloc | apply Kd.R_drewN | apply Kd.R_drew)); exact Kd.R_mono (Kd.R_far (p := ⟨gb433, 2, none⟩) (Kd.R_far (p := ⟨gb433, 1, none⟩) (Kd.R_far (p := ⟨gb433, 0, none⟩) (Kd.R_types HO385.out BK433.out (by decide)) (fun _ hk => hk.2) (.int .i64 t429)) (fun _ hk => hk.2) (.bool t430)) (fun _ hk => hk.2) (.int .i64 t431)) (fun _ hk => ⟨hk.1.1.1.1.2, hk.1.1.2⟩)⟩, ⟨by (with_reducible repeat (first | apply Kd.R_alloc | apply Kd.R_drewN | apply Kd.R_drew)); exact Kd.R_mono (Kd.R_far (p := ⟨gb433, 2, none⟩) (Kd.R_far (p := ⟨gb433, 1, none⟩) (Kd.R_far (p := ⟨gb433, 0, none⟩) (Kd.R_types HO397.out BK433.out (by decide)) (fun _ hk => hk.2) (.int .i64 t429)) (fun _ hk => hk.2) (.bool t430)) (fun _ hk => hk.2) (.int .i64 t431)) (fun _ hk => ⟨hk.1.1.1.1.1.2, hk.1.1.2⟩)⟩, ⟨by (with_reducible repeat (first | apply Kd.R_alloc | apply Kd.R_drewN | apply Kd.R_drew)); exact Kd.R_mono (Kd.R_far (p := ⟨gb433, 2, none⟩) (Kd.R_far (p := ⟨gb433, 1, none⟩) (Kd.R_far (p := ⟨gb433, 0, none⟩) (Kd.R_types HO409.out BK433.out (by decide)) (fun _ hk => hk.2) (.int .i64 t429)) (fun _ hk => hk.2) (.bool t430)) (fun _ hk => hk.2) (.int .i64 t431)) (fun _ hk => ⟨hk.1.1.1.1.1.2, hk.1.1.1.2⟩)⟩, ⟨pf_ BK354⟩, ⟨pf_ BK428⟩, ⟨bw⟩⟩
                            ·replace c141 := Bool.eq_false_iff.mpr c141
                             subst c141
                             rw [if_neg (show ¬ (false = true) by decide)] at H
                             have H' := Aside0.mk H
                             clear H
                             obtain ⟨Ao153, co153, eo153⟩ := Kd.R_slice HO385.out
                             subst eo153
                             obtain ⟨Ao154, co154, eo154⟩ := Kd.R_slice HO389.out
                             subst eo154
                             go_wp2_with (first | (go_at_call 8; (with_reducible refine (laws_vSame.calls kj54 _ _ t382 _ _ t386 true _ ?side1 ?side2 ?side3 ?side4 A121.out).mono ?_); (case side1 => refine (Kd.R_reads' (e := 3) (base := w.heap.size) (ok := fun k_ => (((((True ∧ some k_ ≠ (.slice Ao154 t386.length co154 : Value).ownBlock) ∧ some k_ ≠ (v396 : Value).ownBlock) ∧ some k_ ≠ (v400 : Value).ownBlock) ∧ some k_ ≠ (v408 : Value).ownBlock) ∧ some k_ ≠ (v412 : Value).ownBlock)) (n := t382.length) (c := co153) ?_).2.2; exact (by (with_reducible repeat (first | apply Kd.R_alloc | apply Kd.R_drewN | apply Kd.R_drew)); exact (Kd.R_mono (Kd.R_far (p := ⟨gb433, 2, none⟩) (Kd.R_far (p := ⟨gb433, 1, none⟩) (Kd.R_far (p := ⟨gb433, 0, none⟩) (Kd.R_types HO385.out BK433.out (by decide)) (fun _ hk => hk.2) (.int .i64 t429)) (fun _ hk => hk.2) (.bool t430)) (fun _ hk => hk.2) (.int .i64 t431)) (fun _ h_ => h_.1)))); (case side2 => exact (Kd.R_reads' HO385.out).2.1); (case side3 => refine (Kd.R_reads' (e := 3) (base := w.heap.size) (ok := fun k_ => (((((True ∧ some k_ ≠ (.slice Ao153 t382.length co153 : Value).ownBlock) ∧ some k_ ≠ (v396 : Value).ownBlock) ∧ some k_ ≠ (v400 : Value).ownBlock) ∧ some k_ ≠ (v408 : Value).ownBlock) ∧ some k_ ≠ (v412 : Value).ownBlock)) (n := t386.length) (c := co154) ?_).2.2; exact (by (with_reducible repeat (first | apply Kd.R_alloc | apply Kd.R_drewN | apply Kd.R_drew)); exact (Kd.R_mono (Kd.R_far (p := ⟨gb433, 2, none⟩) (Kd.R_far (p := ⟨gb433, 1, none⟩) (Kd.R_far (p := ⟨gb433, 0, none⟩) (Kd.R_types HO389.out BK433.out (by decide)) (fun _ hk => hk.2) (.int .i64 t429)) (fun _ hk => hk.2) (.bool t430)) (fun _ hk => hk.2) (.int .i64 t431)) (fun _ h_ => h_.1)))); (case side4 => exact (Kd.R_reads' HO389.out).2.1); rintro e w' ⟨rfl, ⟨nd, rfl⟩⟩; (try first | exact ⟨rfl, _, World.drewN_drewN _ _ _⟩ | exact ⟨rfl, _, Eq.trans (World.drewN_drewN _ _ _) (congrArg (World.drewN _) (Nat.add_assoc _ _ _))⟩); obtain ⟨Ao155, co155, eo155⟩ := Kd.R_slice HO397.out; subst eo155; obtain ⟨Ao156, co156, eo156⟩ := Kd.R_slice HO401.out; subst eo156) | (go_at_call 8; (with_reducible refine (laws_vSame.calls kj54 _ _ t394 _ _ t398 true _ ?side1 ?side2 ?side3 ?side4 A126.out).mono ?_); (case side1 => refine (Kd.R_reads' (e := 3) (base := w.heap.size) (ok := fun k_ => (((((True ∧ some k_ ≠ (.slice Ao153 t382.length co153 : Value).ownBlock) ∧ some k_ ≠ (.slice Ao154 t386.length co154 : Value).ownBlock) ∧ some k_ ≠ (.slice Ao156 t398.length co156 : Value).ownBlock) ∧ some k_ ≠ (v408 : Value).ownBlock) ∧ some k_ ≠ (v412 : Value).ownBlock)) (n := t394.length) (c := co155) ?_).2.2; exact (by (with_reducible repeat (first | apply Kd.R_alloc | apply Kd.R_drewN | apply Kd.R_drew)); exact (Kd.R_mono (Kd.R_far (p := ⟨gb433, 2, none⟩) (Kd.R_far (p := ⟨gb433, 1, none⟩) (Kd.R_far (p := ⟨gb433, 0, none⟩) (Kd.R_types HO397.out BK433.out (by decide)) (fun _ hk => hk.2) (.int .i64 t429)) (fun _ hk => hk.2) (.bool t430)) (fun _ hk => hk.2) (.int .i64 t431)) (fun _ h_ => h_.1)))); (case side2 => exact (Kd.R_reads' HO397.out).2.1); (case side3 => refine (Kd.R_reads' (e := 3) (base := w.heap.size) (ok := fun k_ => (((((True ∧ some k_ ≠ (.slice Ao153 t382.length co153 : Value).ownBlock) ∧ some k_ ≠ (.slice Ao154 t386.length co154 : Value).ownBlock) ∧ some k_ ≠ (.slice Ao155 t394.length co155 : Value).ownBlock) ∧ some k_ ≠ (v408 : Value).ownBlock) ∧ some k_ ≠ (v412 : Value).ownBlock)) (n := t398.length) (c := co156) ?_).2.2; exact (by (with_reducible repeat (first | apply Kd.R_alloc | apply Kd.R_drewN | apply Kd.R_drew)); exact (Kd.R_mono (Kd.R_far (p := ⟨gb433, 2, none⟩) (Kd.R_far (p := ⟨gb433, 1, none⟩) (Kd.R_far (p := ⟨gb433, 0, none⟩) (Kd.R_types HO401.out BK433.out (by decide)) (fun _ hk => hk.2) (.int .i64 t429)) (fun _ hk => hk.2) (.bool t430)) (fun _ hk => hk.2) (.int .i64 t431)) (fun _ h_ => h_.1)))); (case side4 => exact (Kd.R_reads' HO401.out).2.1); rintro e w' ⟨rfl, ⟨nd, rfl⟩⟩; (try first | exact ⟨rfl, _, World.drewN_drewN _ _ _⟩ | exact ⟨rfl, _, Eq.trans (World.drewN_drewN _ _ _) (congrArg (World.drewN _) (Nat.add_assoc _ _ _))⟩); obtain ⟨Ao157, co157, eo157⟩ := Kd.R_slice HO409.out; subst eo157; obtain ⟨Ao158, co158, eo158⟩ := Kd.R_slice HO413.out; subst eo158) | (go_at_call 8; (with_reducible refine (laws_vSame.calls kj54 _ _ t406 _ _ t410 true _ ?side1 ?side2 ?side3 ?side4 A131.out).mono ?_); (case side1 => refine (Kd.R_reads' (e := 3) (base := w.heap.size) (ok := fun k_ => (((((True ∧ some k_ ≠ (.slice Ao153 t382.length co153 : Value).ownBlock) ∧ some k_ ≠ (.slice Ao154 t386.length co154 : Value).ownBlock) ∧ some k_ ≠ (.slice Ao155 t394.length co155 : Value).ownBlock) ∧ some k_ ≠ (.slice Ao156 t398.length co156 : Value).ownBlock) ∧ some k_ ≠ (.slice Ao158 t410.length co158 : Value).ownBlock)) (n := t406.length) (c := co157) ?_).2.2; exact (by (with_reducible repeat (first | apply Kd.R_alloc | apply Kd.R_drewN | apply Kd.R_drew)); exact (Kd.R_mono (Kd.R_far (p := ⟨gb433, 2, none⟩) (Kd.R_far (p := ⟨gb433, 1, none⟩) (Kd.R_far (p := ⟨gb433, 0, none⟩) (Kd.R_types HO409.out BK433.out (by decide)) (fun _ hk => hk.2) (.int .i64 t429)) (fun _ hk => hk.2) (.bool t430)) (fun _ hk => hk.2) (.int .i64 t431)) (fun _ h_ => h_.1)))); (case side2 => exact (Kd.R_reads' HO409.out).2.1); (case side3 => refine (Kd.R_reads' (e := 3) (base := w.heap.size) (ok := fun k_ => (((((True ∧ some k_ ≠ (.slice Ao153 t382.length co153 : Value).ownBlock) ∧ some k_ ≠ (.slice Ao154 t386.length co154 : Value).ownBlock) ∧ some k_ ≠ (.slice Ao155 t394.length co155 : Value).ownBlock) ∧ some k_ ≠ (.slice Ao156 t398.length co156 : Value).ownBlock) ∧ some k_ ≠ (.slice Ao157 t406.length co157 : Value).ownBlock)) (n := t410.length) (c := co158) ?_).2.2; exact (by (with_reducible repeat (first | apply Kd.R_alloc | apply Kd.R_drewN | apply Kd.R_drew)); exact (Kd.R_mono (Kd.R_far (p := ⟨gb433, 2, none⟩) (Kd.R_far (p := ⟨gb433, 1, none⟩) (Kd.R_far (p := ⟨gb433, 0, none⟩) (Kd.R_types HO413.out BK433.out (by decide)) (fun _ hk => hk.2) (.int .i64 t429)) (fun _ hk => hk.2) (.bool t430)) (fun _ hk => hk.2) (.int .i64 t431)) (fun _ h_ => h_.1)))); (case side4 => exact (Kd.R_reads' HO413.out).2.1); rintro e w' ⟨rfl, ⟨nd, rfl⟩⟩; (try first | exact ⟨rfl, _, World.drewN_drewN _ _ _⟩ | exact ⟨rfl, _, Eq.trans (World.drewN_drewN _ _ _) (congrArg (World.drewN _) (Nat.add_assoc _ _ _))⟩); have hnb159 := NB428_354.out; have hnc159 := NB354_428.out; have hnb160 := NB428_433.out; have hnc160 := NB433_428.out; have hcz161_0 := bc BK428 0 (.int .i64 t424); have hcz161_1 := bc BK428 1 (.bool t425); have hcz161_2 := bc BK428 2 (.int .i64 t426); have hfz161_0 := blk_frozen BK428.out 0; have hfz161_1 := blk_frozen BK428.out 1; have hfz161_2 := blk_frozen BK428.out 2; have hnb162 := NB433_354.out; have hnc162 := NB354_433.out; have hcz163_0 := bc BK433 0 (.int .i64 0); have hcz163_1 := bc BK433 1 (.bool false); have hcz163_2 := bc BK433 2 (.int .i64 0); have hfz163_0 := blk_frozen BK433.out 0; have hfz163_1 := blk_frozen BK433.out 1; have hfz163_2 := blk_frozen BK433.out 2))
                             repeat (go_quiet (first | (go_at_call 8; (with_reducible refine (laws_vSame.calls kj54 _ _ t382 _ _ t386 true _ ?side1 ?side2 ?side3 ?side4 A121.out).mono ?_); (case side1 => refine (Kd.R_reads' (e := 3) (base := w.heap.size) (ok := fun k_ => (((((True ∧ some k_ ≠ (.slice Ao154 t386.length co154 : Value).ownBlock) ∧ some k_ ≠ (v396 : Value).ownBlock) ∧ some k_ ≠ (v400 : Value).ownBlock) ∧ some k_ ≠ (v408 : Value).ownBlock) ∧ some k_ ≠ (v412 : Value).ownBlock)) (n := t382.length) (c := co153) ?_).2.2; exact (by (with_reducible repeat (first | apply Kd.R_alloc | apply Kd.R_drewN | apply Kd.R_drew)); exact (Kd.R_mono (Kd.R_far (p := ⟨gb433, 2, none⟩) (Kd.R_far (p := ⟨gb433, 1, none⟩) (Kd.R_far (p := ⟨gb433, 0, none⟩) (Kd.R_types HO385.out BK433.out (by decide)) (fun _ hk => hk.2) (.int .i64 t429)) (fun _ hk => hk.2) (.bool t430)) (fun _ hk => hk.2) (.int .i64 t431)) (fun _ h_ => h_.1)))); (case side2 => exact (Kd.R_reads' HO385.out).2.1); (case side3 => refine (Kd.R_reads' (e := 3) (base := w.heap.size) (ok := fun k_ => (((((True ∧ some k_ ≠ (.slice Ao153 t382.length co153 : Value).ownBlock) ∧ some k_ ≠ (v396 : Value).ownBlock) ∧ some k_ ≠ (v400 : Value).ownBlock) ∧ some k_ ≠ (v408 : Value).ownBlock) ∧ some k_ ≠ (v412 : Value).ownBlock)) (n := t386.length) (c := co154) ?_).2.2; exact (by (with_reducible repeat (first | apply Kd.R_alloc | apply Kd.R_drewN | apply Kd.R_drew)); exact (Kd.R_mono (Kd.R_far (p := ⟨gb433, 2, none⟩) (Kd.R_far (p := ⟨gb433, 1, none⟩) (Kd.R_far (p := ⟨gb433, 0, none⟩) (Kd.R_types HO389.out BK433.out (by decide)) (fun _ hk => hk.2) (.int .i64 t429)) (fun _ hk => hk.2) (.bool t430)) (fun _ hk => hk.2) (.int .i64 t431)) (fun _ h_ => h_.1)))); (case side4 => exact (Kd.R_reads' HO389.out).2.1); rintro e w' ⟨rfl, ⟨nd, rfl⟩⟩; (try first | exact ⟨rfl, _, World.drewN_drewN _ _ _⟩ | exact ⟨rfl, _, Eq.trans (World.drewN_drewN _ _ _) (congrArg (World.drewN _) (Nat.add_assoc _ _ _))⟩); obtain ⟨Ao155, co155, eo155⟩ := Kd.R_slice HO397.out; subst eo155; obtain ⟨Ao156, co156, eo156⟩ := Kd.R_slice HO401.out; subst eo156) | (go_at_call 8; (with_reducible refine (laws_vSame.calls kj54 _ _ t394 _ _ t398 true _ ?side1 ?side2 ?side3 ?side4 A126.out).mono ?_); (case side1 => refine (Kd.R_reads' (e := 3) (base := w.heap.size) (ok := fun k_ => (((((True ∧ some k_ ≠ (.slice Ao153 t382.length co153 : Value).ownBlock) ∧ some k_ ≠ (.slice Ao154 t386.length co154 : Value).ownBlock) ∧ some k_ ≠ (.slice Ao156 t398.length co156 : Value).ownBlock) ∧ some k_ ≠ (v408 : Value).ownBlock) ∧ some k_ ≠ (v412 : Value).ownBlock)) (n := t394.length) (c := co155) ?_).2.2; exact (by (with_reducible repeat (first | apply Kd.R_alloc | apply Kd.R_drewN | apply Kd.R_drew)); exact (Kd.R_mono (Kd.R_far (p := ⟨gb433, 2, none⟩) (Kd.R_far (p := ⟨gb433, 1, none⟩) (Kd.R_far (p := ⟨gb433, 0, none⟩) (Kd.R_types HO397.out BK433.out (by decide)) (fun _ hk => hk.2) (.int .i64 t429)) (fun _ hk => hk.2) (.bool t430)) (fun _ hk => hk.2) (.int .i64 t431)) (fun _ h_ => h_.1)))); (case side2 => exact (Kd.R_reads' HO397.out).2.1); (case side3 => refine (Kd.R_reads' (e := 3) (base := w.heap.size) (ok := fun k_ => (((((True ∧ some k_ ≠ (.slice Ao153 t382.length co153 : Value).ownBlock) ∧ some k_ ≠ (.slice Ao154 t386.length co154 : Value).ownBlock) ∧ some k_ ≠ (.slice Ao155 t394.length co155 : Value).ownBlock) ∧ some k_ ≠ (v408 : Value).ownBlock) ∧ some k_ ≠ (v412 : Value).ownBlock)) (n := t398.length) (c := co156) ?_).2.2; exact (by (with_reducible repeat (first | apply Kd.R_alloc | apply Kd.R_drewN | apply Kd.R_drew)); exact (Kd.R_mono (Kd.R_far (p := ⟨gb433, 2, none⟩) (Kd.R_far (p := ⟨gb433, 1, none⟩) (Kd.R_far (p := ⟨gb433, 0, none⟩) (Kd.R_types HO401.out BK433.out (by decide)) (fun _ hk => hk.2) (.int .i64 t429)) (fun _ hk => hk.2) (.bool t430)) (fun _ hk => hk.2) (.int .i64 t431)) (fun _ h_ => h_.1)))); (case side4 => exact (Kd.R_reads' HO401.out).2.1); rintro e w' ⟨rfl, ⟨nd, rfl⟩⟩; (try first | exact ⟨rfl, _, World.drewN_drewN _ _ _⟩ | exact ⟨rfl, _, Eq.trans (World.drewN_drewN _ _ _) (congrArg (World.drewN _) (Nat.add_assoc _ _ _))⟩); obtain ⟨Ao157, co157, eo157⟩ := Kd.R_slice HO409.out; subst eo157; obtain ⟨Ao158, co158, eo158⟩ := Kd.R_slice HO413.out; subst eo158) | (go_at_call 8; (with_reducible refine (laws_vSame.calls kj54 _ _ t406 _ _ t410 true _ ?side1 ?side2 ?side3 ?side4 A131.out).mono ?_); (case side1 => refine (Kd.R_reads' (e := 3) (base := w.heap.size) (ok := fun k_ => (((((True ∧ some k_ ≠ (.slice Ao153 t382.length co153 : Value).ownBlock) ∧ some k_ ≠ (.slice Ao154 t386.length co154 : Value).ownBlock) ∧ some k_ ≠ (.slice Ao155 t394.length co155 : Value).ownBlock) ∧ some k_ ≠ (.slice Ao156 t398.length co156 : Value).ownBlock) ∧ some k_ ≠ (.slice Ao158 t410.length co158 : Value).ownBlock)) (n := t406.length) (c := co157) ?_).2.2; exact (by (with_reducible repeat (first | apply Kd.R_alloc | apply Kd.R_drewN | apply Kd.R_drew)); exact (Kd.R_mono (Kd.R_far (p := ⟨gb433, 2, none⟩) (Kd.R_far (p := ⟨gb433, 1, none⟩) (Kd.R_far (p := ⟨gb433, 0, none⟩) (Kd.R_types HO409.out BK433.out (by decide)) (fun _ hk => hk.2) (.int .i64 t429)) (fun _ hk => hk.2) (.bool t430)) (fun _ hk => hk.2) (.int .i64 t431)) (fun _ h_ => h_.1)))); (case side2 => exact (Kd.R_reads' HO409.out).2.1); (case side3 => refine (Kd.R_reads' (e := 3) (base := w.heap.size) (ok := fun k_ => (((((True ∧ some k_ ≠ (.slice Ao153 t382.length co153 : Value).ownBlock) ∧ some k_ ≠ (.slice Ao154 t386.length co154 : Value).ownBlock) ∧ some k_ ≠ (.slice Ao155 t394.length co155 : Value).ownBlock) ∧ some k_ ≠ (.slice Ao156 t398.length co156 : Value).ownBlock) ∧ some k_ ≠ (.slice Ao157 t406.length co157 : Value).ownBlock)) (n := t410.length) (c := co158) ?_).2.2; exact (by (with_reducible repeat (first | apply Kd.R_alloc | apply Kd.R_drewN | apply Kd.R_drew)); exact (Kd.R_mono (Kd.R_far (p := ⟨gb433, 2, none⟩) (Kd.R_far (p := ⟨gb433, 1, none⟩) (Kd.R_far (p := ⟨gb433, 0, none⟩) (Kd.R_types HO413.out BK433.out (by decide)) (fun _ hk => hk.2) (.int .i64 t429)) (fun _ hk => hk.2) (.bool t430)) (fun _ hk => hk.2) (.int .i64 t431)) (fun _ h_ => h_.1)))); (case side4 => exact (Kd.R_reads' HO413.out).2.1); rintro e w' ⟨rfl, ⟨nd, rfl⟩⟩; (try first | exact ⟨rfl, _, World.drewN_drewN _ _ _⟩ | exact ⟨rfl, _, Eq.trans (World.drewN_drewN _ _ _) (congrArg (World.drewN _) (Nat.add_assoc _ _ _))⟩); have hnb159 := NB428_354.out; have hnc159 := NB354_428.out; have hnb160 := NB428_433.out; have hnc160 := NB433_428.out; have hcz161_0 := bc BK428 0 (.int .i64 t424); have hcz161_1 := bc BK428 1 (.bool t425); have hcz161_2 := bc BK428 2 (.int .i64 t426); have hfz161_0 := blk_frozen BK428.out 0; have hfz161_1 := blk_frozen BK428.out 1; have hfz161_2 := blk_frozen BK428.out 2; have hnb162 := NB433_354.out; have hnc162 := NB354_433.out; have hcz163_0 := bc BK433 0 (.int .i64 0); have hcz163_1 := bc BK433 1 (.bool false); have hcz163_2 := bc BK433 2 (.int .i64 0); have hfz163_0 := blk_frozen BK433.out 0; have hfz163_1 := blk_frozen BK433.out 1; have hfz163_2 := blk_frozen BK433.out 2)); try go_wp2_with (first | (go_at_call 8; (with_reducible refine (laws_vSame.calls kj54 _ _ t382 _ _ t386 true _ ?side1 ?side2 ?side3 ?side4 A121.out).mono ?_); (case side1 => refine (Kd.R_reads' (e := 3) (base := w.heap.size) (ok := fun k_ => (((((True ∧ some k_ ≠ (.slice Ao154 t386.length co154 : Value).ownBlock) ∧ some k_ ≠ (v396 : Value).ownBlock) ∧ some k_ ≠ (v400 : Value).ownBlock) ∧ some k_ ≠ (v408 : Value).ownBlock) ∧ some k_ ≠ (v412 : Value).ownBlock)) (n := t382.length) (c := co153) ?_).2.2; exact (by (with_reducible repeat (first | apply Kd.R_alloc | apply Kd.R_drewN | apply Kd.R_drew)); exact (Kd.R_mono (Kd.R_far (p := ⟨gb433, 2, none⟩) (Kd.R_far (p := ⟨gb433, 1, none⟩) (Kd.R_far (p := ⟨gb433, 0, none⟩) (Kd.R_types HO385.out BK433.out (by decide)) (fun _ hk => hk.2) (.int .i64 t429)) (fun _ hk => hk.2) (.bool t430)) (fun _ hk => hk.2) (.int .i64 t431)) (fun _ h_ => h_.1)))); (case side2 => exact (Kd.R_reads' HO385.out).2.1); (case side3 => refine (Kd.R_reads' (e := 3) (base := w.heap.size) (ok := fun k_ => (((((True ∧ some k_ ≠ (.slice Ao153 t382.length co153 : Value).ownBlock) ∧ some k_ ≠ (v396 : Value).ownBlock) ∧ some k_ ≠ (v400 : Value).ownBlock) ∧ some k_ ≠ (v408 : Value).ownBlock) ∧ some k_ ≠ (v412 : Value).ownBlock)) (n := t386.length) (c := co154) ?_).2.2; exact (by (with_reducible repeat (first | apply Kd.R_alloc | apply Kd.R_drewN | apply Kd.R_drew)); exact (Kd.R_mono (Kd.R_far (p := ⟨gb433, 2, none⟩) (Kd.R_far (p := ⟨gb433, 1, none⟩) (Kd.R_far (p := ⟨gb433, 0, none⟩) (Kd.R_types HO389.out BK433.out (by decide)) (fun _ hk => hk.2) (.int .i64 t429)) (fun _ hk => hk.2) (.bool t430)) (fun _ hk => hk.2) (.int .i64 t431)) (fun _ h_ => h_.1)))); (case side4 => exact (Kd.R_reads' HO389.out).2.1); rintro e w' ⟨rfl, ⟨nd, rfl⟩⟩; (try first | exact ⟨rfl, _, World.drewN_drewN _ _ _⟩ | exact ⟨rfl, _, Eq.trans (World.drewN_drewN _ _ _) (congrArg (World.drewN _) (Nat.add_assoc _ _ _))⟩); obtain ⟨Ao155, co155, eo155⟩ := Kd.R_slice HO397.out; subst eo155; obtain ⟨Ao156, co156, eo156⟩ := Kd.R_slice HO401.out; subst eo156) | (go_at_call 8; (with_reducible refine (laws_vSame.calls kj54 _ _ t394 _ _ t398 true _ ?side1 ?side2 ?side3 ?side4 A126.out).mono ?_); (case side1 => refine (Kd.R_reads' (e := 3) (base := w.heap.size) (ok := fun k_ => (((((True ∧ some k_ ≠ (.slice Ao153 t382.length co153 : Value).ownBlock) ∧ some k_ ≠ (.slice Ao154 t386.length co154 : Value).ownBlock) ∧ some k_ ≠ (.slice Ao156 t398.length co156 : Value).ownBlock) ∧ some k_ ≠ (v408 : Value).ownBlock) ∧ some k_ ≠ (v412 : Value).ownBlock)) (n := t394.length) (c := co155) ?_).2.2; exact (by (with_reducible repeat (first | apply Kd.R_alloc | apply Kd.R_drewN | apply Kd.R_drew)); exact (Kd.R_mono (Kd.R_far (p := ⟨gb433, 2, none⟩) (Kd.R_far (p := ⟨gb433, 1, none⟩) (Kd.R_far (p := ⟨gb433, 0, none⟩) (Kd.R_types HO397.out BK433.out (by decide)) (fun _ hk => hk.2) (.int .i64 t429)) (fun _ hk => hk.2) (.bool t430)) (fun _ hk => hk.2) (.int .i64 t431)) (fun _ h_ => h_.1)))); (case side2 => exact (Kd.R_reads' HO397.out).2.1); (case side3 => refine (Kd.R_reads' (e := 3) (base := w.heap.size) (ok := fun k_ => (((((True ∧ some k_ ≠ (.slice Ao153 t382.length co153 : Value).ownBlock) ∧ some k_ ≠ (.slice Ao154 t386.length co154 : Value).ownBlock) ∧ some k_ ≠ (.slice Ao155 t394.length co155 : Value).ownBlock) ∧ some k_ ≠ (v408 : Value).ownBlock) ∧ some k_ ≠ (v412 : Value).ownBlock)) (n := t398.length) (c := co156) ?_).2.2; exact (by (with_reducible repeat (first | apply Kd.R_alloc | apply Kd.R_drewN | apply Kd.R_drew)); exact (Kd.R_mono (Kd.R_far (p := ⟨gb433, 2, none⟩) (Kd.R_far (p := ⟨gb433, 1, none⟩) (Kd.R_far (p := ⟨gb433, 0, none⟩) (Kd.R_types HO401.out BK433.out (by decide)) (fun _ hk => hk.2) (.int .i64 t429)) (fun _ hk => hk.2) (.bool t430)) (fun _ hk => hk.2) (.int .i64 t431)) (fun _ h_ => h_.1)))); (case side4 => exact (Kd.R_reads' HO401.out).2.1); rintro e w' ⟨rfl, ⟨nd, rfl⟩⟩; (try first | exact ⟨rfl, _, World.drewN_drewN _ _ _⟩ | exact ⟨rfl, _, Eq.trans (World.drewN_drewN _ _ _) (congrArg (World.drewN _) (Nat.add_assoc _ _ _))⟩); obtain ⟨Ao157, co157, eo157⟩ := Kd.R_slice HO409.out; subst eo157; obtain ⟨Ao158, co158, eo158⟩ := Kd.R_slice HO413.out; subst eo158) | (go_at_call 8; (with_reducible refine (laws_vSame.calls kj54 _ _ t406 _ _ t410 true _ ?side1 ?side2 ?side3 ?side4 A131.out).mono ?_); (case side1 => refine (Kd.R_reads' (e := 3) (base := w.heap.size) (ok := fun k_ => (((((True ∧ some k_ ≠ (.slice Ao153 t382.length co153 : Value).ownBlock) ∧ some k_ ≠ (.slice Ao154 t386.length co154 : Value).ownBlock) ∧ some k_ ≠ (.slice Ao155 t394.length co155 : Value).ownBlock) ∧ some k_ ≠ (.slice Ao156 t398.length co156 : Value).ownBlock) ∧ some k_ ≠ (.slice Ao158 t410.length co158 : Value).ownBlock)) (n := t406.length) (c := co157) ?_).2.2; exact (by (with_reducible repeat (first | apply Kd.R_alloc | apply Kd.R_drewN | apply Kd.R_drew)); exact (Kd.R_mono (Kd.R_far (p := ⟨gb433, 2, none⟩) (Kd.R_far (p := ⟨gb433, 1, none⟩) (Kd.R_far (p := ⟨gb433, 0, none⟩) (Kd.R_types HO409.out BK433.out (by decide)) (fun _ hk => hk.2) (.int .i64 t429)) (fun _ hk => hk.2) (.bool t430)) (fun _ hk => hk.2) (.int .i64 t431)) (fun _ h_ => h_.1)))); (case side2 => exact (Kd.R_reads' HO409.out).2.1); (case side3 => refine (Kd.R_reads' (e := 3) (base := w.heap.size) (ok := fun k_ => (((((True ∧ some k_ ≠ (.slice Ao153 t382.length co153 : Value).ownBlock) ∧ some k_ ≠ (.slice Ao154 t386.length co154 : Value).ownBlock) ∧ some k_ ≠ (.slice Ao155 t394.length co155 : Value).ownBlock) ∧ some k_ ≠ (.slice Ao156 t398.length co156 : Value).ownBlock) ∧ some k_ ≠ (.slice Ao157 t406.length co157 : Value).ownBlock)) (n := t410.length) (c := co158) ?_).2.2; exact (by (with_reducible repeat (first | apply Kd.R_alloc | apply Kd.R_drewN | apply Kd.R_drew)); exact (Kd.R_mono (Kd.R_far (p := ⟨gb433, 2, none⟩) (Kd.R_far (p := ⟨gb433, 1, none⟩) (Kd.R_far (p := ⟨gb433, 0, none⟩) (Kd.R_types HO413.out BK433.out (by decide)) (fun _ hk => hk.2) (.int .i64 t429)) (fun _ hk => hk.2) (.bool t430)) (fun _ hk => hk.2) (.int .i64 t431)) (fun _ h_ => h_.1)))); (case side4 => exact (Kd.R_reads' HO413.out).2.1); rintro e w' ⟨rfl, ⟨nd, rfl⟩⟩; (try first | exact ⟨rfl, _, World.drewN_drewN _ _ _⟩ | exact ⟨rfl, _, Eq.trans (World.drewN_drewN _ _ _) (congrArg (World.drewN _) (Nat.add_assoc _ _ _))⟩); have hnb159 := NB428_354.out; have hnc159 := NB354_428.out; have hnb160 := NB428_433.out; have hnc160 := NB433_428.out; have hcz161_0 := bc BK428 0 (.int .i64 t424); have hcz161_1 := bc BK428 1 (.bool t425); have hcz161_2 := bc BK428 2 (.int .i64 t426); have hfz161_0 := blk_frozen BK428.out 0; have hfz161_1 := blk_frozen BK428.out 1; have hfz161_2 := blk_frozen BK428.out 2; have hnb162 := NB433_354.out; have hnc162 := NB354_433.out; have hcz163_0 := bc BK433 0 (.int .i64 0); have hcz163_1 := bc BK433 1 (.bool false); have hcz163_2 := bc BK433 2 (.int .i64 0); have hfz163_0 := blk_frozen BK433.out 0; have hfz163_1 := blk_frozen BK433.out 1; have hfz163_2 := blk_frozen BK433.out 2)))
                             go_meet
                             case rel => exact ⟨_, (false), (rs), H', ⟨by have := HJ12.out; have := HJ21.out; have := HJ54.out; first | omega | exact Nat.le_refl _⟩, ⟨by (with_reducible repeat (first | apply Kd.R_alloc | apply Kd.R_drewN | apply Kd.R_drew)); exact Kd.R_mono (Kd.R_far (p := ⟨gb433, 2, none⟩) (Kd.R_far (p := ⟨gb433, 1, none⟩) (Kd.R_far (p := ⟨gb433, 0, none⟩) (Kd.R_types HO385.out BK433.out (by decide)) (fun _ hk => hk.2) (.int .i64 t429)) (fun _ hk => hk.2) (.bool t430)) (fun _ hk => hk.2) (.int .i64 t431)) (fun _ hk => ⟨hk.1.1.1.1.2, hk.1.1.2⟩)⟩, ⟨by (with_reducible repeat (first | apply Kd.R_alloc | apply Kd.R_drewN | apply Kd.R_drew)); exact Kd.R_mono (Kd.R_far (p := ⟨gb433, 2, none⟩) (Kd.R_far (p := ⟨gb433, 1, none⟩) (Kd.R_far (p := ⟨gb433, 0, none⟩) (Kd.R_types HO397.out BK433.out (by decide)) (fun _ hk => hk.2) (.int .i64 t429)) (fun _ hk => hk.2) (.bool t430)) (fun _ hk => hk.2) (.int .i64 t431)) (fun _ hk => ⟨hk.1.1.1.1.1.2, hk.1.1.2⟩)⟩, ⟨by (with_reducible repeat (first | apply Kd.R_alloc | apply Kd.R_drewN | apply Kd.R_drew)); exact Kd.R_mono (Kd.R_far (p := ⟨gb433, 2, none⟩) (Kd.R_far (p := ⟨gb433, 1, none⟩) (Kd.R_far (p := ⟨gb433, 0, none⟩) (Kd.R_types HO409.out BK433.out (by decide)) (fun _ hk => hk.2) (.int .i64 t429)) (fun _ hk => hk.2) (.bool t430)) (fun _ hk => hk.2) (.int .i64 t431)) (fun _ hk => ⟨hk.1.1.1.1.1.2, hk.1.1.1.2⟩)⟩, ⟨pf_ BK354⟩, ⟨pf_ BK428⟩, ⟨bw⟩⟩
                        ·rw [if_neg c137] at H
                         exact absurd (Option.some.inj H) (by rw [HRT.out]; decide)
                      ·rw [if_neg c135] at H
                       exact absurd (Option.some.inj H) (by rw [HRT.out]; decide)
                     ·rw [if_neg c134] at H
                      exact absurd (Option.some.inj H) (by rw [HRT.out]; decide)
                   ·replace c132 := Bool.eq_false_iff.mpr c132
                    subst c132
                    rw [if_neg (show ¬ (false = true) by decide)] at H
                    exact absurd (Option.some.inj H) (by rw [HRT.out]; decide)
                 ·rw [if_neg c129] at H
                  exact absurd (Option.some.inj H) (by rw [HRT.out]; decide)
               ·replace c127 := Bool.eq_false_iff.mpr c127
                subst c127
                rw [if_neg (show ¬ (false = true) by decide)] at H
                exact absurd (Option.some.inj H) (by rw [HRT.out]; decide)
             ·rw [if_neg c124] at H
              exact absurd (Option.some.inj H) (by rw [HRT.out]; decide)
           ·replace c122 := Bool.eq_false_iff.mpr c122
            subst c122
            rw [if_neg (show ¬ (false = true) by decide)] at H
            exact absurd (Option.some.inj H) (by rw [HRT.out]; decide)
         case rest =>
          clear HC96
          repeat (first|clear c1|clear c2|clear p2|clear c3|clear p3|clear q3|clear hx3|clear c4|clear c5|clear c6|clear p6|clear c7|clear c11|clear c12|clear c13|clear c14|clear c15|clear c15b0|clear c15b1|clear c16|clear c16b0|clear c16b1|clear c17|clear c27|clear c27b0|clear c27b1|clear c27b2|clear c29|clear c30|clear c30b0|clear c30b1|clear c30b2|clear c31|clear c31b0|clear c31b1|clear c34|clear c34b0|clear c34b1|clear c34b2|clear c35|clear c36|clear p37|clear q37|clear hx37|clear p38|clear q38|clear hx38|clear c43|clear c54|clear c56|clear c58|clear c59|clear c59b0|clear c59b1|clear c59b2|clear c61|clear c61b0|clear c62|clear c62b0|clear c63|clear c63b0|clear p64|clear c65|clear c67|clear c69|clear c69b0|clear c71|clear c72|clear c72b0|clear c72b1|clear c75|clear c75b0|clear c76|clear c76b0|clear c77|clear c77b0|clear c79|clear c113|clear c117|clear c118|clear c120|clear c120b0|clear c120b1|clear c120b2|clear c122|clear c123|clear c123b0|clear c123b1|clear c123b2|clear c124|clear c124b0|clear c124b1|clear c125|clear c125b0|clear c125b1|clear c125b2|clear c127|clear c128|clear c128b0|clear c128b1|clear c128b2|clear c129|clear c129b0|clear c129b1|clear c130|clear c130b0|clear c130b1|clear c130b2|clear c132|clear c133|clear c133b0|clear c133b1|clear c133b2|clear c134|clear c134b0|clear c134b1|clear c135|clear c135b0|clear c135b1|clear c136|clear c136b0|clear c136b1|clear c136b2|clear c137|clear c137b0|clear c137b1|clear c138|clear c138b0|clear c138b1|clear c138b2|clear c139|clear c139b0|clear c140|clear c140b0|clear c140b1|clear c140b2|clear c141|clear c148|clear c149|clear c151|clear c159|clear c160|clear c162|clear hcz107_0|clear hcz107_1|clear hcz107_2|clear hcz109_0|clear hcz109_1|clear hcz109_2|clear hcz114_0|clear hcz114_1|clear hcz114_2|clear hcz119_0|clear hcz119_1|clear hcz119_2|clear hcz150_0|clear hcz150_1|clear hcz150_2|clear hcz152_0|clear hcz152_1|clear hcz152_2|clear hcz161_0|clear hcz161_1|clear hcz161_2|clear hcz163_0|clear hcz163_1|clear hcz163_2|clear hcz68_0|clear hcz68_1|clear hcz68_2|clear hfz107_0|clear hfz107_1|clear hfz107_2|clear hfz109_0|clear hfz109_1|clear hfz109_2|clear hfz114_0|clear hfz114_1|clear hfz114_2|clear hfz119_0|clear hfz119_1|clear hfz119_2|clear hfz150_0|clear hfz150_1|clear hfz150_2|clear hfz152_0|clear hfz152_1|clear hfz152_2|clear hfz161_0|clear hfz161_1|clear hfz161_2|clear hfz163_0|clear hfz163_1|clear hfz163_2|clear hfz68_0|clear hfz68_1|clear hfz68_2|clear hx373_0|clear hx373_1|clear hx373_2|clear hx380_0|clear p373|clear p380|clear q373|clear q380)
          obtain ⟨kq, x413_95, rfl, HA, HJ95, HO_39, HO_47, HO_55, BK354, BK428, HB⟩ := hcut
          cases kq with
          | zero => exact absurd HA.out (by simp [laws_FnSignalsReachOfAll.j5])
          | succ kj95 =>
           have H := HA.out
           clear HA
           simp only [laws_FnSignalsReachOfAll.j5] at H
           by_cases c164 : x413_95 = true
           ·subst c164
            rw [if_pos rfl] at H
            exact absurd (Option.some.inj H) (by rw [HRT.out]; decide)
           ·replace c164 := Bool.eq_false_iff.mpr c164
            subst c164
            rw [if_neg (show ¬ (false = true) by decide)] at H
            have HC165 := Aside0.mk H
            clear H
            go_upto_if 414 with (fail)
            repeat (go_quiet (fail); go_upto_if 414 with (fail))
            go_cut [355, 356, 357, 358, 359, 360, 361, 364, 365, 366, 367, 368, 369, 370, 371, 372, 375, 376, 377, 380, 381, 382, 383, 384, 385, 386, 387, 390, 391, 392, 393, 394, 395, 396, 397, 400, 401, 402, 403, 404, 405, 406, 407, 408, 409, 410, 411, 412, 413, 414] from 9999 (fun _ _ _ _ _ _ _ _ _ _ _ _ _ _ _ _ _ _ _ _ _ _ _ _ _ _ _ _ _ _ _ _ _ _ _ _ _ _ _ _ _ _ _ _ _ _ _ _ _ _ wc => ∃ (kq : Nat), Aside0 (laws_FnSignalsReachOfAll.j7 kq a5 a6 a7 a8 a9 a11 t394 t395 t402 t406 t407 t414 t415 t416 t420 t421 t427 a10_0 a10_1 a10_2 t424 t425 t426 = some r) ∧ Aside0 (kq ≤ kj95) ∧ Aside0 (Kd.R (Kd.int .i64) 3 wc w.heap.size (fun k_ => some k_ ≠ (v408 : Value).ownBlock) v396 t394) ∧ Aside0 (Kd.R (Kd.int .i64) 3 wc w.heap.size (fun k_ => some k_ ≠ (v396 : Value).ownBlock) v408 t406) ∧ Aside0 (wc.heap[gb354]? = some (.cells #[.int .i64 a10_0, .bool a10_1, .int .i64 a10_2] 25 (0, 0))) ∧ Aside0 (wc.heap[gb428]? = some (.cells #[.int .i64 t424, .bool t425, .int .i64 t426] 25 (0, 0))) ∧ Aside0 (Below w.heap.size w wc))
            case first => as_aux_lemma =>
             have H := HC165.out
             clear HC165
             by_cases c166 : t383 = true
             ·subst c166
              rw [if_pos rfl] at H
              by_cases c167 : (t382.length : Int) = a3
              ·rw [if_pos c167] at H
               have c167b0 : ((t382.length : Int) == a3) = true := beq_iff_eq.mpr c167
               have c167b1 : ((t382.length : Int) != a3) = false := bne_eq_false_iff_eq.mpr c167
               clear c167
               (first | rw [c167b0] | rw [@decide_eq_true _ _ (of_decide_eq_true c167b1)] | rw [@decide_eq_false _ _ (of_decide_eq_false c167b1)] | (simp only [i64_w, i32_w]; rw [c167b0]) | skip)
               replace H := Option.bind_eq_some_iff.mp H
               obtain ⟨t437, A1680, H⟩ := H
               (try dsimp only at H)
               have A168 := Aside0.mk A1680
               clear A1680
               by_cases c169 : t437 = t390
               ·rw [if_pos c169] at H
                have c169b0 : (t437 == t390) = true := beq_iff_eq.mpr c169
                have c169b1 : (t437 != t390) = false := bne_eq_false_iff_eq.mpr c169
                clear c169
                have H' := Aside0.mk H
                clear H
                obtain ⟨Ao170, co170, eo170⟩ := Kd.R_slice HO_39.out
                subst eo170
                go_wp2_with (first | (go_at_call 29; (with_reducible refine (laws_vMost.calls kj95 _ _ t382 t437 _ ?side1 ?side2 A168.out).mono ?_); (case side1 => repeat (first | exact (Kd.R_reads' HO_39.out).2.2 | (with_reducible refine Kd.C_alloc ?_ _) | (with_reducible refine Kd.C_drewN ?_ _) | (with_reducible refine Kd.C_drew ?_))); (case side2 => exact (Kd.R_reads' HO_39.out).2.1); rintro e w' ⟨rfl, ⟨nd, rfl⟩⟩; (try first | exact ⟨rfl, _, World.drewN_drewN _ _ _⟩ | exact ⟨rfl, _, Eq.trans (World.drewN_drewN _ _ _) (congrArg (World.drewN _) (Nat.add_assoc _ _ _))⟩)))
                repeat (go_quiet (first | (go_at_call 29; (with_reducible refine (laws_vMost.calls kj95 _ _ t382 t437 _ ?side1 ?side2 A168.out).mono ?_); (case side1 => repeat (first | exact (Kd.R_reads' HO_39.out).2.2 | (with_reducible refine Kd.C_alloc ?_ _) | (with_reducible refine Kd.C_drewN ?_ _) | (with_reducible refine Kd.C_drew ?_))); (case side2 => exact (Kd.R_reads' HO_39.out).2.1); rintro e w' ⟨rfl, ⟨nd, rfl⟩⟩; (try first | exact ⟨rfl, _, World.drewN_drewN _ _ _⟩ | exact ⟨rfl, _, Eq.trans (World.drewN_drewN _ _ _) (congrArg (World.drewN _) (Nat.add_assoc _ _ _))⟩))); try go_wp2_with (first | (go_at_call 29; (with_reducible refine (laws_vMost.calls kj95 _ _ t382 t437 _ ?side1 ?side2 A168.out).mono ?_); (case side1 => repeat (first | exact (Kd.R_reads' HO_39.out).2.2 | (with_reducible refine Kd.C_alloc ?_ _) | (with_reducible refine Kd.C_drewN ?_ _) | (with_reducible refine Kd.C_drew ?_))); (case side2 => exact (Kd.R_reads' HO_39.out).2.1); rintro e w' ⟨rfl, ⟨nd, rfl⟩⟩; (try first | exact ⟨rfl, _, World.drewN_drewN _ _ _⟩ | exact ⟨rfl, _, Eq.trans (World.drewN_drewN _ _ _) (congrArg (World.drewN _) (Nat.add_assoc _ _ _))⟩))))
                go_loopg [427] kj95 (fun kq v427 w' => ∃ (x427_5 : Int), v427 = .int .i64 x427_5 ∧ Aside0 (laws_FnSignalsReachOfAll.l2 kq l4 a5 a6 a7 a8 a9 a11 t382 t394 t395 t402 t406 t407 t414 t415 t416 t420 t421 t427 t382 (t382.length : Int) x427_5 a10_0 a10_1 a10_2 t424 t425 t426 = some r) ∧ Aside0 (kq ≤ kj95) ∧ Aside0 (Kd.R (Kd.int .i64) 3 w' w.heap.size (fun k_ => some k_ ≠ (v396 : Value).ownBlock ∧ some k_ ≠ (v408 : Value).ownBlock) (.slice Ao170 t382.length co170) t382) ∧ Aside0 (Kd.R (Kd.int .i64) 3 w' w.heap.size (fun k_ => some k_ ≠ ((.slice Ao170 t382.length co170) : Value).ownBlock ∧ some k_ ≠ (v408 : Value).ownBlock ∧ some k_ ≠ ((.slice Ao170 t382.length co170) : Value).ownBlock) v396 t394) ∧ Aside0 (Kd.R (Kd.int .i64) 3 w' w.heap.size (fun k_ => some k_ ≠ ((.slice Ao170 t382.length co170) : Value).ownBlock ∧ some k_ ≠ (v396 : Value).ownBlock ∧ some k_ ≠ ((.slice Ao170 t382.length co170) : Value).ownBlock) v408 t406) ∧ Aside0 (Kd.R (Kd.int .i64) 3 w' w.heap.size (fun k_ => some k_ ≠ (v396 : Value).ownBlock ∧ some k_ ≠ (v408 : Value).ownBlock) (.slice Ao170 t382.length co170) t382) ∧ Aside0 (w'.heap[gb354]? = some (.cells #[.int .i64 a10_0, .bool a10_1, .int .i64 a10_2] 25 (0, 0))) ∧ Aside0 (w'.heap[gb428]? = some (.cells #[.int .i64 t424, .bool t425, .int .i64 t426] 25 (0, 0))) ∧ Aside0 (Below w.heap.size w w'))
                case atStart => exact ⟨(0), (rs), H', ⟨Nat.le_refl _⟩, ⟨pr HO_39⟩, ⟨by (with_reducible repeat (first | apply Kd.R_alloc | apply Kd.R_drewN | apply Kd.R_drew)); exact Kd.R_mono HO_47.out (fun _ hk => ⟨hk.1, ⟨hk.2, hk.1⟩⟩)⟩, ⟨by (with_reducible repeat (first | apply Kd.R_alloc | apply Kd.R_drewN | apply Kd.R_drew)); exact Kd.R_mono HO_55.out (fun _ hk => ⟨hk.1, ⟨hk.2, hk.1⟩⟩)⟩, ⟨pr HO_39⟩, ⟨pk BK354⟩, ⟨pk BK428⟩, ⟨bw⟩⟩
                case round =>
                 clear H'
                 repeat (first|clear c1|clear c2|clear p2|clear c3|clear p3|clear q3|clear hx3|clear c4|clear c5|clear c6|clear p6|clear c7|clear c11|clear c12|clear c13|clear c14|clear c15|clear c15b0|clear c15b1|clear c16|clear c16b0|clear c16b1|clear c17|clear c27|clear c27b0|clear c27b1|clear c27b2|clear c29|clear c30|clear c30b0|clear c30b1|clear c30b2|clear c31|clear c31b0|clear c31b1|clear c34|clear c34b0|clear c34b1|clear c34b2|clear c35|clear c36|clear p37|clear q37|clear hx37|clear p38|clear q38|clear hx38|clear c43|clear c54|clear c56|clear c58|clear c59|clear c59b0|clear c59b1|clear c59b2|clear c61|clear c61b0|clear c62|clear c62b0|clear c63|clear c63b0|clear p64|clear c65|clear c67|clear c69|clear c69b0|clear c71|clear c72|clear c72b0|clear c72b1|clear c75|clear c75b0|clear c76|clear c76b0|clear c77|clear c77b0|clear c79|clear c113|clear c117|clear c118|clear c120|clear c120b0|clear c120b1|clear c120b2|clear c122|clear c123|clear c123b0|clear c123b1|clear c123b2|clear c124|clear c124b0|clear c124b1|clear c125|clear c125b0|clear c125b1|clear c125b2|clear c127|clear c128|clear c128b0|clear c128b1|clear c128b2|clear c129|clear c129b0|clear c129b1|clear c130|clear c130b0|clear c130b1|clear c130b2|clear c132|clear c133|clear c133b0|clear c133b1|clear c133b2|clear c134|clear c134b0|clear c134b1|clear c135|clear c135b0|clear c135b1|clear c136|clear c136b0|clear c136b1|clear c136b2|clear c137|clear c137b0|clear c137b1|clear c138|clear c138b0|clear c138b1|clear c138b2|clear c139|clear c139b0|clear c140|clear c140b0|clear c140b1|clear c140b2|clear c141|clear c148|clear c149|clear c151|clear c159|clear c160|clear c162|clear c164|clear c166|clear c167|clear c167b0|clear c167b1|clear c169|clear c169b0|clear c169b1|clear hcz107_0|clear hcz107_1|clear hcz107_2|clear hcz109_0|clear hcz109_1|clear hcz109_2|clear hcz114_0|clear hcz114_1|clear hcz114_2|clear hcz119_0|clear hcz119_1|clear hcz119_2|clear hcz150_0|clear hcz150_1|clear hcz150_2|clear hcz152_0|clear hcz152_1|clear hcz152_2|clear hcz161_0|clear hcz161_1|clear hcz161_2|clear hcz163_0|clear hcz163_1|clear hcz163_2|clear hcz68_0|clear hcz68_1|clear hcz68_2|clear hfz107_0|clear hfz107_1|clear hfz107_2|clear hfz109_0|clear hfz109_1|clear hfz109_2|clear hfz114_0|clear hfz114_1|clear hfz114_2|clear hfz119_0|clear hfz119_1|clear hfz119_2|clear hfz150_0|clear hfz150_1|clear hfz150_2|clear hfz152_0|clear hfz152_1|clear hfz152_2|clear hfz161_0|clear hfz161_1|clear hfz161_2|clear hfz163_0|clear hfz163_1|clear hfz163_2|clear hfz68_0|clear hfz68_1|clear hfz68_2|clear hx373_0|clear hx373_1|clear hx373_2|clear hx380_0|clear p373|clear p380|clear q373|clear q380)
                 obtain ⟨x427_5, rfl, HA, HK5, HO_39, HO_47, HO_55, HO_425, BK354, BK428, HB⟩ := hrel
                 cases gk with
                 | zero => exact absurd HA.out (by simp [laws_FnSignalsReachOfAll.l2])
                 | succ k5 =>
                  have H := HA.out
                  clear HA
                  simp only [laws_FnSignalsReachOfAll.l2] at H
                  by_cases c171 : x427_5 < (t382.length : Int)
                  ·rw [if_pos c171] at H
                   have c171b0 : decide (x427_5 < (t382.length : Int)) = true := decide_eq_true c171
                   clear c171
                   by_cases c172 : 0 ≤ x427_5
                   ·rw [if_pos c172] at H
                    have c172b0 : decide (0 ≤ x427_5) = true := decide_eq_true c172
                    clear c172
                    by_cases c173 : x427_5 < (t382.length : Int)
                    ·rw [if_pos c173] at H
                     have c173b0 : decide (x427_5 < (t382.length : Int)) = true := decide_eq_true c173
                     clear c173
                     by_cases c174 : (rd t382 x427_5) < 0
                     ·rw [if_pos c174] at H
                      exact absurd (Option.some.inj H) (by rw [HRT.out]; decide)
                     ·rw [if_neg c174] at H
                      have c174b0 : decide ((rd t382 x427_5) < 0) = false := decide_eq_false c174
                      clear c174
                      replace H := Option.bind_eq_some_iff.mp H
                      obtain ⟨t439, A1750, H⟩ := H
                      (try dsimp only at H)
                      have A175 := Aside0.mk A1750
                      clear A1750
                      by_cases c176 : (((rd t382 x427_5) == 0) != t439) = true
                      ·rw [if_pos c176] at H
                       exact absurd (Option.some.inj H) (by rw [HRT.out]; decide)
                      ·rw [if_neg c176] at H
                       have c176b0 : (((rd t382 x427_5) == 0) != t439) = false := by simpa using c176
                       (try (have c176b1 : decide (((rd t382 x427_5) == 0) = t439) = true := by simpa using c176))
                       (try (have c176b2 : (((rd t382 x427_5) == 0) == t439) = true := by simpa using c176))
                       clear c176
                       by_cases c177 : x427_5 > 0
                       ·rw [if_pos c177] at H
                        have c177b0 : decide (0 < x427_5) = true := decide_eq_true c177
                        clear c177
                        obtain ⟨ji178, hji178⟩ : ∃ j_ : Int, (wrap64 (x427_5 - 1)) = j_ := ⟨_, rfl⟩
                        replace H : (if 0 ≤ (ji178) then (if (ji178) < (t382.length : Int) then (if (wrap64 ((rd t382 x427_5) - (rd t382 (ji178)))) > 1 then (some false) else (if (wrap64 ((rd t382 (ji178)) - (rd t382 x427_5))) > 1 then (some false) else (laws_FnSignalsReachOfAll.l2 k5 l4 a5 a6 a7 a8 a9 a11 t382 t394 t395 t402 t406 t407 t414 t415 t416 t420 t421 t427 t382 (t382.length : Int) (wrap64 (x427_5 + 1)) a10_0 a10_1 a10_2 t424 t425 t426))) else (none)) else (none)) = some r := by first | (rw [hji178] at H; exact H) | (simp only [hji178] at H ⊢; exact H)
                        (try rw [hji178] at A175)
                        have hji178w : (IntKind.i64.wrap (x427_5 - 1)) = ji178 := (i64_w _).trans hji178
                        by_cases c179 : 0 ≤ (ji178)
                        ·rw [if_pos c179] at H
                         have c179b0 : decide (0 ≤ (ji178)) = true := decide_eq_true c179
                         clear c179
                         by_cases c180 : (ji178) < (t382.length : Int)
                         ·rw [if_pos c180] at H
                          have c180b0 : decide ((ji178) < (t382.length : Int)) = true := decide_eq_true c180
                          clear c180
                          by_cases c181 : (wrap64 ((rd t382 x427_5) - (rd t382 (ji178)))) > 1
                          ·rw [if_pos c181] at H
                           exact absurd (Option.some.inj H) (by rw [HRT.out]; decide)
                          ·rw [if_neg c181] at H
                           have c181b0 : decide (1 < (wrap64 ((rd t382 x427_5) - (rd t382 (ji178))))) = false := decide_eq_false c181
                           clear c181
                           by_cases c182 : (wrap64 ((rd t382 (ji178)) - (rd t382 x427_5))) > 1
                           ·rw [if_pos c182] at H
                            exact absurd (Option.some.inj H) (by rw [HRT.out]; decide)
                           ·rw [if_neg c182] at H
                            have c182b0 : decide (1 < (wrap64 ((rd t382 (ji178)) - (rd t382 x427_5)))) = false := decide_eq_false c182
                            clear c182
                            have H' := Aside0.mk H
                            clear H
                            have p438 : 0 ≤ (x427_5 : Int) := of_decide_eq_true (by first | (with_reducible assumption) | assumption)
                            have q438 : x427_5 < (t382.length : Int) := of_decide_eq_true (by first | (with_reducible assumption) | assumption)
                            obtain ⟨ad438, e438, hx438_0⟩ := Kd.at_int (Kd.R_reads' HO_425.out).2.2 x427_5 p438 q438
                            cases e438
                            replace p438 := eq_true p438
                            replace q438 := eq_true q438
                            go_wp2_with (first | (go_at_call 12; (with_reducible refine (laws_vHas.calls k5 _ _ l4 x427_5 t439 _ ?side1 ?side2 A175.out).mono ?_); (case side1 => exact cb HR4); (case side2 => exact HC4.out); rintro e w' ⟨rfl, ⟨nd, rfl⟩⟩; (try first | exact ⟨rfl, _, World.drewN_drewN _ _ _⟩ | exact ⟨rfl, _, Eq.trans (World.drewN_drewN _ _ _) (congrArg (World.drewN _) (Nat.add_assoc _ _ _))⟩); have p440 : 0 ≤ ((ji178) : Int) := of_decide_eq_true (by first | (with_reducible assumption) | assumption); have q440 : (ji178) < (t382.length : Int) := of_decide_eq_true (by first | (with_reducible assumption) | assumption); obtain ⟨ad440, e440, hx440_0⟩ := Kd.at_int (Kd.R_reads' HO_39.out).2.2 (ji178) p440 q440; obtain rfl : ad438 = ad440 := (by injection e440); replace p440 := eq_true p440; replace q440 := eq_true q440; have p441 : 0 ≤ ((ji178) : Int) := of_decide_eq_true (by first | (with_reducible assumption) | assumption); have q441 : (ji178) < (t382.length : Int) := of_decide_eq_true (by first | (with_reducible assumption) | assumption); obtain ⟨ad441, e441, hx441_0⟩ := Kd.at_int (Kd.R_reads' HO_39.out).2.2 (ji178) p441 q441; obtain rfl : ad438 = ad441 := (by injection e441); replace p441 := eq_true p441; replace q441 := eq_true q441))
                            repeat (go_quiet (first | (go_at_call 12; (with_reducible refine (laws_vHas.calls k5 _ _ l4 x427_5 t439 _ ?side1 ?side2 A175.out).mono ?_); (case side1 => exact cb HR4); (case side2 => exact HC4.out); rintro e w' ⟨rfl, ⟨nd, rfl⟩⟩; (try first | exact ⟨rfl, _, World.drewN_drewN _ _ _⟩ | exact ⟨rfl, _, Eq.trans (World.drewN_drewN _ _ _) (congrArg (World.drewN _) (Nat.add_assoc _ _ _))⟩); have p440 : 0 ≤ ((ji178) : Int) := of_decide_eq_true (by first | (with_reducible assumption) | assumption); have q440 : (ji178) < (t382.length : Int) := of_decide_eq_true (by first | (with_reducible assumption) | assumption); obtain ⟨ad440, e440, hx440_0⟩ := Kd.at_int (Kd.R_reads' HO_39.out).2.2 (ji178) p440 q440; obtain rfl : ad438 = ad440 := (by injection e440); replace p440 := eq_true p440; replace q440 := eq_true q440; have p441 : 0 ≤ ((ji178) : Int) := of_decide_eq_true (by first | (with_reducible assumption) | assumption); have q441 : (ji178) < (t382.length : Int) := of_decide_eq_true (by first | (with_reducible assumption) | assumption); obtain ⟨ad441, e441, hx441_0⟩ := Kd.at_int (Kd.R_reads' HO_39.out).2.2 (ji178) p441 q441; obtain rfl : ad438 = ad441 := (by injection e441); replace p441 := eq_true p441; replace q441 := eq_true q441)); try go_wp2_with (first | (go_at_call 12; (with_reducible refine (laws_vHas.calls k5 _ _ l4 x427_5 t439 _ ?side1 ?side2 A175.out).mono ?_); (case side1 => exact cb HR4); (case side2 => exact HC4.out); rintro e w' ⟨rfl, ⟨nd, rfl⟩⟩; (try first | exact ⟨rfl, _, World.drewN_drewN _ _ _⟩ | exact ⟨rfl, _, Eq.trans (World.drewN_drewN _ _ _) (congrArg (World.drewN _) (Nat.add_assoc _ _ _))⟩); have p440 : 0 ≤ ((ji178) : Int) := of_decide_eq_true (by first | (with_reducible assumption) | assumption); have q440 : (ji178) < (t382.length : Int) := of_decide_eq_true (by first | (with_reducible assumption) | assumption); obtain ⟨ad440, e440, hx440_0⟩ := Kd.at_int (Kd.R_reads' HO_39.out).2.2 (ji178) p440 q440; obtain rfl : ad438 = ad440 := (by injection e440); replace p440 := eq_true p440; replace q440 := eq_true q440; have p441 : 0 ≤ ((ji178) : Int) := of_decide_eq_true (by first | (with_reducible assumption) | assumption); have q441 : (ji178) < (t382.length : Int) := of_decide_eq_true (by first | (with_reducible assumption) | assumption); obtain ⟨ad441, e441, hx441_0⟩ := Kd.at_int (Kd.R_reads' HO_39.out).2.2 (ji178) p441 q441; obtain rfl : ad438 = ad441 := (by injection e441); replace p441 := eq_true p441; replace q441 := eq_true q441)))
                            go_roundg k5
                            case measure => have := HJ12.out; have := HJ21.out; have := HJ54.out; have := HJ95.out; have := HK5.out; omega
                            case rel => exact ⟨(wrap64 (x427_5 + 1)), (rs), H', ⟨by have := HJ12.out; have := HJ21.out; have := HJ54.out; have := HJ95.out; have := HK5.out; omega⟩, ⟨pr HO_39⟩, ⟨pr HO_47⟩, ⟨pr HO_55⟩, ⟨pr HO_425⟩, ⟨pk BK354⟩, ⟨pk BK428⟩, ⟨bw⟩⟩
                         ·rw [if_neg c180] at H
                          exact absurd H (by simp)
                        ·rw [if_neg c179] at H
                         exact absurd H (by simp)
                       ·rw [if_neg c177] at H
                        have c177b0 : decide (0 < x427_5) = false := decide_eq_false c177
                        clear c177
                        have H' := Aside0.mk H
                        clear H
                        have p438 : 0 ≤ (x427_5 : Int) := of_decide_eq_true (by first | (with_reducible assumption) | assumption)
                        have q438 : x427_5 < (t382.length : Int) := of_decide_eq_true (by first | (with_reducible assumption) | assumption)
                        obtain ⟨ad438, e438, hx438_0⟩ := Kd.at_int (Kd.R_reads' HO_425.out).2.2 x427_5 p438 q438
                        cases e438
                        replace p438 := eq_true p438
                        replace q438 := eq_true q438
                        go_wp2_with (first | (go_at_call 12; (with_reducible refine (laws_vHas.calls k5 _ _ l4 x427_5 t439 _ ?side1 ?side2 A175.out).mono ?_); (case side1 => exact cb HR4); (case side2 => exact HC4.out); rintro e w' ⟨rfl, ⟨nd, rfl⟩⟩; (try first | exact ⟨rfl, _, World.drewN_drewN _ _ _⟩ | exact ⟨rfl, _, Eq.trans (World.drewN_drewN _ _ _) (congrArg (World.drewN _) (Nat.add_assoc _ _ _))⟩)))
                        repeat (go_quiet (first | (go_at_call 12; (with_reducible refine (laws_vHas.calls k5 _ _ l4 x427_5 t439 _ ?side1 ?side2 A175.out).mono ?_); (case side1 => exact cb HR4); (case side2 => exact HC4.out); rintro e w' ⟨rfl, ⟨nd, rfl⟩⟩; (try first | exact ⟨rfl, _, World.drewN_drewN _ _ _⟩ | exact ⟨rfl, _, Eq.trans (World.drewN_drewN _ _ _) (congrArg (World.drewN _) (Nat.add_assoc _ _ _))⟩))); try go_wp2_with (first | (go_at_call 12; (with_reducible refine (laws_vHas.calls k5 _ _ l4 x427_5 t439 _ ?side1 ?side2 A175.out).mono ?_); (case side1 => exact cb HR4); (case side2 => exact HC4.out); rintro e w' ⟨rfl, ⟨nd, rfl⟩⟩; (try first | exact ⟨rfl, _, World.drewN_drewN _ _ _⟩ | exact ⟨rfl, _, Eq.trans (World.drewN_drewN _ _ _) (congrArg (World.drewN _) (Nat.add_assoc _ _ _))⟩))))
                        go_roundg k5
                        case measure => have := HJ12.out; have := HJ21.out; have := HJ54.out; have := HJ95.out; have := HK5.out; omega
                        case rel => exact ⟨(wrap64 (x427_5 + 1)), (rs), H', ⟨by have := HJ12.out; have := HJ21.out; have := HJ54.out; have := HJ95.out; have := HK5.out; omega⟩, ⟨pr HO_39⟩, ⟨pr HO_47⟩, ⟨pr HO_55⟩, ⟨pr HO_425⟩, ⟨pk BK354⟩, ⟨pk BK428⟩, ⟨bw⟩⟩
                    ·rw [if_neg c173] at H
                     exact absurd H (by simp)
                   ·rw [if_neg c172] at H
                    exact absurd H (by simp)
                  ·rw [if_neg c171] at H
                   have c171b0 : decide (x427_5 < (t382.length : Int)) = false := decide_eq_false c171
                   clear c171
                   have H' := Aside0.mk H
                   clear H
                   go_wp2
                   repeat (go_quiet (fail); try go_wp2)
                   go_meet
                   case rel => exact ⟨_, H', ⟨by have := HJ12.out; have := HJ21.out; have := HJ54.out; have := HJ95.out; have := HK5.out; first | omega | exact Nat.le_refl _⟩, ⟨by (with_reducible repeat (first | apply Kd.R_alloc | apply Kd.R_drewN | apply Kd.R_drew)); exact Kd.R_mono HO_47.out (fun _ hk => hk.2.1)⟩, ⟨by (with_reducible repeat (first | apply Kd.R_alloc | apply Kd.R_drewN | apply Kd.R_drew)); exact Kd.R_mono HO_55.out (fun _ hk => hk.2.1)⟩, ⟨pk BK354⟩, ⟨pk BK428⟩, ⟨bw⟩⟩
               ·rw [if_neg c169] at H
                exact absurd (Option.some.inj H) (by rw [HRT.out]; decide)
              ·rw [if_neg c167] at H
               exact absurd (Option.some.inj H) (by rw [HRT.out]; decide)
             ·replace c166 := Bool.eq_false_iff.mpr c166
              subst c166
              rw [if_neg (show ¬ (false = true) by decide)] at H
              have H' := Aside0.mk H
              clear H
              go_wp2
              repeat (go_quiet (fail); try go_wp2)
              go_meet
              case rel => exact ⟨_, H', ⟨by have := HJ12.out; have := HJ21.out; have := HJ54.out; have := HJ95.out; first | omega | exact Nat.le_refl _⟩, ⟨by (with_reducible repeat (first | apply Kd.R_alloc | apply Kd.R_drewN | apply Kd.R_drew)); exact Kd.R_mono HO_47.out (fun _ hk => hk.2)⟩, ⟨by (with_reducible repeat (first | apply Kd.R_alloc | apply Kd.R_drewN | apply Kd.R_drew)); exact Kd.R_mono HO_55.out (fun _ hk => hk.2)⟩, ⟨pk BK354⟩, ⟨pk BK428⟩, ⟨bw⟩⟩
            case rest =>
             clear HC165
             repeat (first|clear c1|clear c2|clear p2|clear c3|clear p3|clear q3|clear hx3|clear c4|clear p4|clear q4|clear hx4|clear c5|clear c6|clear p6|clear c7|clear c11|clear c12|clear c13|clear c14|clear c15|clear c15b0|clear c15b1|clear c16|clear c16b0|clear c16b1|clear c17|clear c18|clear c27|clear c27b0|clear c27b1|clear c27b2|clear c29|clear c30|clear c30b0|clear c30b1|clear c30b2|clear c31|clear c31b0|clear c31b1|clear c34|clear c34b0|clear c34b1|clear c34b2|clear c35|clear c36|clear p37|clear q37|clear hx37|clear p38|clear q38|clear hx38|clear c43|clear p43|clear q43|clear hx43|clear p44|clear q44|clear hx44|clear c54|clear c56|clear c58|clear c59|clear c59b0|clear c59b1|clear c59b2|clear c61|clear c61b0|clear c62|clear c62b0|clear c63|clear c63b0|clear p64|clear c65|clear c67|clear c69|clear c69b0|clear c71|clear c72|clear c72b0|clear c72b1|clear c75|clear c75b0|clear c76|clear c76b0|clear c77|clear c77b0|clear c79|clear c113|clear c117|clear c118|clear c120|clear c120b0|clear c120b1|clear c120b2|clear c122|clear c123|clear c123b0|clear c123b1|clear c123b2|clear c124|clear c124b0|clear c124b1|clear c125|clear c125b0|clear c125b1|clear c125b2|clear c127|clear c128|clear c128b0|clear c128b1|clear c128b2|clear c129|clear c129b0|clear c129b1|clear c130|clear c130b0|clear c130b1|clear c130b2|clear c132|clear c133|clear c133b0|clear c133b1|clear c133b2|clear c134|clear c134b0|clear c134b1|clear c135|clear c135b0|clear c135b1|clear c136|clear c136b0|clear c136b1|clear c136b2|clear c137|clear c137b0|clear c137b1|clear c138|clear c138b0|clear c138b1|clear c138b2|clear c139|clear c139b0|clear c140|clear c140b0|clear c140b1|clear c140b2|clear c141|clear c148|clear c149|clear c151|clear c159|clear c160|clear c162|clear c164|clear c166|clear c167|clear c167b0|clear c167b1|clear c169|clear c169b0|clear c169b1|clear c171|clear c171b0|clear c172|clear c172b0|clear c173|clear c173b0|clear c174|clear c174b0|clear c176|clear c176b0|clear c176b1|clear c176b2|clear c177|clear c177b0|clear c179|clear c179b0|clear c180|clear c180b0|clear c181|clear c181b0|clear c182|clear c182b0|clear hcz107_0|clear hcz107_1|clear hcz107_2|clear hcz109_0|clear hcz109_1|clear hcz109_2|clear hcz114_0|clear hcz114_1|clear hcz114_2|clear hcz119_0|clear hcz119_1|clear hcz119_2|clear hcz150_0|clear hcz150_1|clear hcz150_2|clear hcz152_0|clear hcz152_1|clear hcz152_2|clear hcz161_0|clear hcz161_1|clear hcz161_2|clear hcz163_0|clear hcz163_1|clear hcz163_2|clear hcz68_0|clear hcz68_1|clear hcz68_2|clear hfz107_0|clear hfz107_1|clear hfz107_2|clear hfz109_0|clear hfz109_1|clear hfz109_2|clear hfz114_0|clear hfz114_1|clear hfz114_2|clear hfz119_0|clear hfz119_1|clear hfz119_2|clear hfz150_0|clear hfz150_1|clear hfz150_2|clear hfz152_0|clear hfz152_1|clear hfz152_2|clear hfz161_0|clear hfz161_1|clear hfz161_2|clear hfz163_0|clear hfz163_1|clear hfz163_2|clear hfz68_0|clear hfz68_1|clear hfz68_2|clear hx373_0|clear hx373_1|clear hx373_2|clear hx380_0|clear hx438_0|clear hx440_0|clear hx441_0|clear p373|clear p380|clear p438|clear p440|clear p441|clear q373|clear q380|clear q438|clear q440|clear q441)
             obtain ⟨kq, HA, HJ164, HO_47, HO_55, BK354, BK428, HB⟩ := hcut
             cases kq with
             | zero => exact absurd HA.out (by simp [laws_FnSignalsReachOfAll.j7])
             | succ kj164 =>
              have H := HA.out
              clear HA
              simp only [laws_FnSignalsReachOfAll.j7] at H
              have HC183 := Aside0.mk H
              clear H
              go_upto_if 467 with (fail)
              repeat (go_quiet (fail); go_upto_if 467 with (fail))
              go_cut [408, 409, 410, 411, 412, 413, 414, 418, 419, 423, 424, 433, 434, 436, 439, 440, 441, 442, 444, 445, 453, 454, 455, 456, 457, 458, 459, 460, 461, 462, 463, 464, 465, 466, 467] from 9999 (fun _ _ _ _ _ _ _ _ _ _ _ _ _ _ _ _ _ _ _ _ _ _ _ _ _ _ _ _ _ _ _ _ _ _ _ wc => ∃ (kq : Nat), Aside0 (laws_FnSignalsReachOfAll.j8 kq a7 a8 a9 a11 t406 t407 t414 t415 t416 t420 t421 t427 a10_0 a10_1 a10_2 t424 t425 t426 = some r) ∧ Aside0 (kq ≤ kj164) ∧ Aside0 (Kd.R (Kd.int .i64) 3 wc w.heap.size (fun _ => True) v408 t406) ∧ Aside0 (wc.heap[gb354]? = some (.cells #[.int .i64 a10_0, .bool a10_1, .int .i64 a10_2] 25 (0, 0))) ∧ Aside0 (wc.heap[gb428]? = some (.cells #[.int .i64 t424, .bool t425, .int .i64 t426] 25 (0, 0))) ∧ Aside0 (Below w.heap.size w wc))
              case first => as_aux_lemma =>
               have H := HC183.out
               clear HC183
               by_cases c184 : t395 = true
               ·subst c184
                rw [if_pos rfl] at H
                replace H := Option.bind_eq_some_iff.mp H
                obtain ⟨⟨t442, t443⟩, A1850, H⟩ := H
                (try dsimp only at H)
                have A185 := Aside0.mk A1850
                clear A1850
                by_cases c186 : (t394.length : Int) = a6
                ·rw [if_pos c186] at H
                 have c186b0 : ((t394.length : Int) == a6) = true := beq_iff_eq.mpr c186
                 have c186b1 : ((t394.length : Int) != a6) = false := bne_eq_false_iff_eq.mpr c186
                 clear c186
                 (first | rw [c186b0] | rw [@decide_eq_true _ _ (of_decide_eq_true c186b1)] | rw [@decide_eq_false _ _ (of_decide_eq_false c186b1)] | (simp only [i64_w, i32_w]; rw [c186b0]) | skip)
                 by_cases c187 : t443 = true
                 ·subst c187
                  rw [if_pos rfl] at H
                  by_cases c188 : t442 = t402
                  ·rw [if_pos c188] at H
                   have c188b0 : (t442 == t402) = true := beq_iff_eq.mpr c188
                   have c188b1 : (t442 != t402) = false := bne_eq_false_iff_eq.mpr c188
                   clear c188
                   have H' := Aside0.mk H
                   clear H
                   obtain ⟨Ao189, co189, eo189⟩ := Kd.R_slice HO_47.out
                   subst eo189
                   go_wp2_with (first | (go_at_call 15; (with_reducible refine (impl_TimeAllKnow.calls kj164 a5 _ _ t394 t442 true _ ?side1 ?side2 A185.out).mono ?_); (case side1 => repeat (first | exact (Kd.R_reads' HO_47.out).2.2 | (with_reducible refine Kd.C_alloc ?_ _) | (with_reducible refine Kd.C_drewN ?_ _) | (with_reducible refine Kd.C_drew ?_))); (case side2 => exact (Kd.R_reads' HO_47.out).2.1); rintro e w190 ⟨rfl, hb⟩; replace HO_47 := Aside0.mk (Kd.R_below (pr HO_47) hb); replace HO_55 := Aside0.mk (Kd.R_below (pr HO_55) hb); replace BK354 := nk BK354 hb; replace BK428 := nk BK428 hb; replace HB := bs hb; (try clear hb)))
                   repeat (go_quiet (first | (go_at_call 15; (with_reducible refine (impl_TimeAllKnow.calls kj164 a5 _ _ t394 t442 true _ ?side1 ?side2 A185.out).mono ?_); (case side1 => repeat (first | exact (Kd.R_reads' HO_47.out).2.2 | (with_reducible refine Kd.C_alloc ?_ _) | (with_reducible refine Kd.C_drewN ?_ _) | (with_reducible refine Kd.C_drew ?_))); (case side2 => exact (Kd.R_reads' HO_47.out).2.1); rintro e w190 ⟨rfl, hb⟩; replace HO_47 := Aside0.mk (Kd.R_below (pr HO_47) hb); replace HO_55 := Aside0.mk (Kd.R_below (pr HO_55) hb); replace BK354 := nk BK354 hb; replace BK428 := nk BK428 hb; replace HB := bs hb; (try clear hb))); try go_wp2_with (first | (go_at_call 15; (with_reducible refine (impl_TimeAllKnow.calls kj164 a5 _ _ t394 t442 true _ ?side1 ?side2 A185.out).mono ?_); (case side1 => repeat (first | exact (Kd.R_reads' HO_47.out).2.2 | (with_reducible refine Kd.C_alloc ?_ _) | (with_reducible refine Kd.C_drewN ?_ _) | (with_reducible refine Kd.C_drew ?_))); (case side2 => exact (Kd.R_reads' HO_47.out).2.1); rintro e w190 ⟨rfl, hb⟩; replace HO_47 := Aside0.mk (Kd.R_below (pr HO_47) hb); replace HO_55 := Aside0.mk (Kd.R_below (pr HO_55) hb); replace BK354 := nk BK354 hb; replace BK428 := nk BK428 hb; replace HB := bs hb; (try clear hb))))
                   go_meet
                   case rel => exact ⟨_, H', ⟨by have := HJ12.out; have := HJ21.out; have := HJ54.out; have := HJ95.out; have := HJ164.out; first | omega | exact Nat.le_refl _⟩, ⟨by (with_reducible repeat (first | apply Kd.R_alloc | apply Kd.R_drewN | apply Kd.R_drew)); exact Kd.R_mono HO_55.out (fun _ hk => trivial)⟩, ⟨pk BK354⟩, ⟨pk BK428⟩, ⟨bw⟩⟩
                  ·rw [if_neg c188] at H
                   exact absurd (Option.some.inj H) (by rw [HRT.out]; decide)
                 ·replace c187 := Bool.eq_false_iff.mpr c187
                  subst c187
                  rw [if_neg (show ¬ (false = true) by decide)] at H
                  exact absurd (Option.some.inj H) (by rw [HRT.out]; decide)
                ·rw [if_neg c186] at H
                 exact absurd (Option.some.inj H) (by rw [HRT.out]; decide)
               ·replace c184 := Bool.eq_false_iff.mpr c184
                subst c184
                rw [if_neg (show ¬ (false = true) by decide)] at H
                have H' := Aside0.mk H
                clear H
                go_wp2
                repeat (go_quiet (fail); try go_wp2)
                go_meet
                case rel => exact ⟨_, H', ⟨by have := HJ12.out; have := HJ21.out; have := HJ54.out; have := HJ95.out; have := HJ164.out; first | omega | exact Nat.le_refl _⟩, ⟨by (with_reducible repeat (first | apply Kd.R_alloc | apply Kd.R_drewN | apply Kd.R_drew)); exact Kd.R_mono HO_55.out (fun _ hk => trivial)⟩, ⟨pk BK354⟩, ⟨pk BK428⟩, ⟨bw⟩⟩
              case rest =>
               clear HC183
               repeat (first|clear c1|clear c2|clear p2|clear c3|clear p3|clear q3|clear hx3|clear c4|clear p4|clear q4|clear hx4|clear c5|clear c6|clear p6|clear c7|clear c11|clear c12|clear c13|clear c14|clear c15|clear c15b0|clear c15b1|clear c16|clear c16b0|clear c16b1|clear c17|clear c18|clear c27|clear c27b0|clear c27b1|clear c27b2|clear c29|clear c30|clear c30b0|clear c30b1|clear c30b2|clear c31|clear c31b0|clear c31b1|clear c34|clear c34b0|clear c34b1|clear c34b2|clear c35|clear c36|clear p37|clear q37|clear hx37|clear p38|clear q38|clear hx38|clear c43|clear p43|clear q43|clear hx43|clear p44|clear q44|clear hx44|clear c54|clear c56|clear c58|clear c59|clear c59b0|clear c59b1|clear c59b2|clear c61|clear c61b0|clear c62|clear c62b0|clear c63|clear c63b0|clear p64|clear c65|clear c67|clear c69|clear c69b0|clear c71|clear c72|clear c72b0|clear c72b1|clear c75|clear c75b0|clear c76|clear c76b0|clear c77|clear c77b0|clear c79|clear c113|clear c117|clear c118|clear c120|clear c120b0|clear c120b1|clear c120b2|clear c122|clear c123|clear c123b0|clear c123b1|clear c123b2|clear c124|clear c124b0|clear c124b1|clear c125|clear c125b0|clear c125b1|clear c125b2|clear c127|clear c128|clear c128b0|clear c128b1|clear c128b2|clear c129|clear c129b0|clear c129b1|clear c130|clear c130b0|clear c130b1|clear c130b2|clear c132|clear c133|clear c133b0|clear c133b1|clear c133b2|clear c134|clear c134b0|clear c134b1|clear c135|clear c135b0|clear c135b1|clear c136|clear c136b0|clear c136b1|clear c136b2|clear c137|clear c137b0|clear c137b1|clear c138|clear c138b0|clear c138b1|clear c138b2|clear c139|clear c139b0|clear c140|clear c140b0|clear c140b1|clear c140b2|clear c141|clear c148|clear c149|clear c151|clear c159|clear c160|clear c162|clear c164|clear c166|clear c167|clear c167b0|clear c167b1|clear c169|clear c169b0|clear c169b1|clear c171|clear c171b0|clear c172|clear c172b0|clear c173|clear c173b0|clear c174|clear c174b0|clear c176|clear c176b0|clear c176b1|clear c176b2|clear c177|clear c177b0|clear c179|clear c179b0|clear c180|clear c180b0|clear c181|clear c181b0|clear c182|clear c182b0|clear c184|clear c186|clear c186b0|clear c186b1|clear c187|clear c188|clear c188b0|clear c188b1|clear hcz107_0|clear hcz107_1|clear hcz107_2|clear hcz109_0|clear hcz109_1|clear hcz109_2|clear hcz114_0|clear hcz114_1|clear hcz114_2|clear hcz119_0|clear hcz119_1|clear hcz119_2|clear hcz150_0|clear hcz150_1|clear hcz150_2|clear hcz152_0|clear hcz152_1|clear hcz152_2|clear hcz161_0|clear hcz161_1|clear hcz161_2|clear hcz163_0|clear hcz163_1|clear hcz163_2|clear hcz68_0|clear hcz68_1|clear hcz68_2|clear hfz107_0|clear hfz107_1|clear hfz107_2|clear hfz109_0|clear hfz109_1|clear hfz109_2|clear hfz114_0|clear hfz114_1|clear hfz114_2|clear hfz119_0|clear hfz119_1|clear hfz119_2|clear hfz150_0|clear hfz150_1|clear hfz150_2|clear hfz152_0|clear hfz152_1|clear hfz152_2|clear hfz161_0|clear hfz161_1|clear hfz161_2|clear hfz163_0|clear hfz163_1|clear hfz163_2|clear hfz68_0|clear hfz68_1|clear hfz68_2|clear hx373_0|clear hx373_1|clear hx373_2|clear hx380_0|clear hx438_0|clear hx440_0|clear hx441_0|clear p373|clear p380|clear p438|clear p440|clear p441|clear q373|clear q380|clear q438|clear q440|clear q441)
               obtain ⟨kq, HA, HJ182, HO_55, BK354, BK428, HB⟩ := hcut
               cases kq with
               | zero => exact absurd HA.out (by simp [laws_FnSignalsReachOfAll.j8])
               | succ kj182 =>
                have H := HA.out
                clear HA
                simp only [laws_FnSignalsReachOfAll.j8] at H
                have HC191 := Aside0.mk H
                clear H
                go_upto_if 487 with (fail)
                repeat (go_quiet (fail); go_upto_if 487 with (fail))
                go_cut [433, 434, 436, 439, 440, 441, 442, 444, 445, 453, 454, 462, 463, 464, 465, 467, 473, 474, 475, 476, 477, 478, 479, 480, 481, 482, 483, 484, 485, 486, 487] from 9999 (fun _ _ _ _ _ _ _ _ _ _ _ _ _ _ _ _ _ _ _ _ _ _ _ _ _ _ _ _ _ _ _ wc => ∃ (kq : Nat), Aside0 (laws_FnSignalsReachOfAll.j10 kq a9 a11 t414 t415 t416 t420 t421 t427 a10_0 a10_1 a10_2 t424 t425 t426 = some r) ∧ Aside0 (kq ≤ kj182) ∧ Aside0 (wc.heap[gb354]? = some (.cells #[.int .i64 a10_0, .bool a10_1, .int .i64 a10_2] 25 (0, 0))) ∧ Aside0 (wc.heap[gb428]? = some (.cells #[.int .i64 t424, .bool t425, .int .i64 t426] 25 (0, 0))) ∧ Aside0 (Below w.heap.size w wc))
                case first => as_aux_lemma =>
                 have H := HC191.out
                 clear HC191
                 by_cases c192 : t407 = true
                 ·subst c192
                  rw [if_pos rfl] at H
                  obtain ⟨y444, hy444⟩ : ∃ y_ : List Int, y_ = (([a8] : List Int)) := ⟨_, rfl⟩
                  replace H : ((impl_SpreadTimes.f kj182 a7 y444).bind fun bt447 => (if bt447.2 = true then (if (t406.length : Int) = a7 then (if 0 ≤ a8 then (if a8 < (t406.length : Int) then ((laws_vMost.f kj182 t406).bind fun t452 => (if (rd t406 a8) = t452 then (laws_FnSignalsReachOfAll.l3 kj182 a8 a9 a11 t406 t414 t415 t416 t420 t421 t427 bt447.1 t406 (t406.length : Int) 0 a10_0 a10_1 a10_2 t424 t425 t426) else (some false))) else (none)) else (none)) else (some false)) else (some false))) = some r := by first | (rw [hy444]; with_reducible exact H) | (have H2_ := (Option.bind_some _ _).symm.trans H; rw [hy444]; with_reducible exact H2_) | (have H2_ := (Option.bind_some _ _).symm.trans H; with_reducible exact H2_) | with_reducible exact H | (rw [hy444]; exact H) | exact H
                  have Ny444 := Aside0.mk hy444
                  clear hy444
                  replace H := Option.bind_eq_some_iff.mp H
                  obtain ⟨⟨t447, t448⟩, A1930, H⟩ := H
                  (try dsimp only at H)
                  have A193 := Aside0.mk A1930
                  clear A1930
                  by_cases c194 : t448 = true
                  ·subst c194
                   rw [if_pos rfl] at H
                   by_cases c195 : (t406.length : Int) = a7
                   ·rw [if_pos c195] at H
                    have c195b0 : ((t406.length : Int) == a7) = true := beq_iff_eq.mpr c195
                    have c195b1 : ((t406.length : Int) != a7) = false := bne_eq_false_iff_eq.mpr c195
                    clear c195
                    (first | rw [c195b0] | rw [@decide_eq_true _ _ (of_decide_eq_true c195b1)] | rw [@decide_eq_false _ _ (of_decide_eq_false c195b1)] | (simp only [i64_w, i32_w]; rw [c195b0]) | skip)
                    by_cases c196 : 0 ≤ a8
                    ·rw [if_pos c196] at H
                     have c196b0 : decide (0 ≤ a8) = true := decide_eq_true c196
                     clear c196
                     by_cases c197 : a8 < (t406.length : Int)
                     ·rw [if_pos c197] at H
                      have c197b0 : decide (a8 < (t406.length : Int)) = true := decide_eq_true c197
                      clear c197
                      replace H := Option.bind_eq_some_iff.mp H
                      obtain ⟨t452, A1980, H⟩ := H
                      (try dsimp only at H)
                      have A198 := Aside0.mk A1980
                      clear A1980
                      by_cases c199 : (rd t406 a8) = t452
                      ·rw [if_pos c199] at H
                       have c199b0 : ((rd t406 a8) == t452) = true := beq_iff_eq.mpr c199
                       have c199b1 : ((rd t406 a8) != t452) = false := bne_eq_false_iff_eq.mpr c199
                       clear c199
                       have H' := Aside0.mk H
                       clear H
                       go_wp2_with (first | ((with_reducible refine gate_dst (N := 491) rfl ?_); (try (refine gate_guard (by rfl) ?_; dsimp only)); refine Kd.R_lit (Kd.int .i64) _ 3 ?hg (N := 491) ?hd (xs := ([a8] : List Int)) (inner := [.int .i64 a8]) (ok := fun _ => True) (okp := fun _ => True) ?hr ?hp (fun _ hk => hk) trivial (Below.refl _ _) (Nat.le_refl _) (by simp) ?_; (case hd => rfl); (case hg => rfl); (case hr => first | (go_simp; done) | (go_simp; rfl)); (case hp => exact (Reps.one (show Kd.M (Kd.int .i64) _ _ _ a8 [.int .i64 a8] from rfl) (Reps.none _ _))); intro v445 w200 ho201 hb hg_ hnew_; clear hg_ hnew_; (first | rw [← Ny444.out] at ho201 | (simp only [Int.reduceToNat] at ho201; rw [← Ny444.out] at ho201)); have HO446 := Aside0.mk (Kd.R_lower (Kd.R_new' ho201 (Kd.R_lt (pr HO_55))) (below_size bw)); replace HO_55 := Aside0.mk (Kd.R_elder' (pr HO_55) (Kd.R_base ho201) hb); replace BK354 := nk BK354 hb; replace BK428 := nk BK428 hb; replace HB := bs hb; clear hb ho201; obtain ⟨Ao202, co202, eo202⟩ := Kd.R_slice HO446.out; subst eo202) | (go_at_call 13; (with_reducible refine (impl_SpreadTimes.calls kj182 a7 _ _ y444 t447 true _ ?side1 ?side2 A193.out).mono ?_); (case side1 => repeat (first | exact (Kd.R_reads' HO446.out).2.2 | (with_reducible refine Kd.C_alloc ?_ _) | (with_reducible refine Kd.C_drewN ?_ _) | (with_reducible refine Kd.C_drew ?_))); (case side2 => exact (Kd.R_reads' HO446.out).2.1); rintro e w203 ⟨v449, rfl, ho0, hb⟩; have HO450 := Aside0.mk (Kd.R_lower (Kd.R_new' (Kd.R_new' ho0 (Kd.R_lt (pr HO_55))) (Kd.R_lt (pr HO446))) (below_size bw)); replace HO_55 := Aside0.mk (Kd.R_elder' (pr HO_55) (Kd.R_base ho0) hb); replace HO446 := Aside0.mk (Kd.R_elder' (pr HO446) (Kd.R_base ho0) hb); replace BK354 := nk BK354 hb; replace BK428 := nk BK428 hb; replace HB := bs hb; (try clear hb); (try clear ho0); obtain ⟨Ao204, co204, eo204⟩ := Kd.R_slice HO_55.out; subst eo204; have p451 : 0 ≤ (a8 : Int) := of_decide_eq_true (by first | (with_reducible assumption) | assumption); have q451 : a8 < (t406.length : Int) := of_decide_eq_true (by first | (with_reducible assumption) | assumption); obtain ⟨ad451, e451, hx451_0⟩ := Kd.at_int (Kd.R_reads' HO_55.out).2.2 a8 p451 q451; cases e451; replace p451 := eq_true p451; replace q451 := eq_true q451) | (go_at_call 29; (with_reducible refine (laws_vMost.calls kj182 _ _ t406 t452 _ ?side1 ?side2 A198.out).mono ?_); (case side1 => repeat (first | exact (Kd.R_reads' HO_55.out).2.2 | (with_reducible refine Kd.C_alloc ?_ _) | (with_reducible refine Kd.C_drewN ?_ _) | (with_reducible refine Kd.C_drew ?_))); (case side2 => exact (Kd.R_reads' HO_55.out).2.1); rintro e w' ⟨rfl, ⟨nd, rfl⟩⟩; (try first | exact ⟨rfl, _, World.drewN_drewN _ _ _⟩ | exact ⟨rfl, _, Eq.trans (World.drewN_drewN _ _ _) (congrArg (World.drewN _) (Nat.add_assoc _ _ _))⟩)))
                       repeat (go_quiet (first | ((with_reducible refine gate_dst (N := 491) rfl ?_); (try (refine gate_guard (by rfl) ?_; dsimp only)); refine Kd.R_lit (Kd.int .i64) _ 3 ?hg (N := 491) ?hd (xs := ([a8] : List Int)) (inner := [.int .i64 a8]) (ok := fun _ => True) (okp := fun _ => True) ?hr ?hp (fun _ hk => hk) trivial (Below.refl _ _) (Nat.le_refl _) (by simp) ?_; (case hd => rfl); (case hg => rfl); (case hr => first | (go_simp; done) | (go_simp; rfl)); (case hp => exact (Reps.one (show Kd.M (Kd.int .i64) _ _ _ a8 [.int .i64 a8] from rfl) (Reps.none _ _))); intro v445 w200 ho201 hb hg_ hnew_; clear hg_ hnew_; (first | rw [← Ny444.out] at ho201 | (simp only [Int.reduceToNat] at ho201; rw [← Ny444.out] at ho201)); have HO446 := Aside0.mk (Kd.R_lower (Kd.R_new' ho201 (Kd.R_lt (pr HO_55))) (below_size bw)); replace HO_55 := Aside0.mk (Kd.R_elder' (pr HO_55) (Kd.R_base ho201) hb); replace BK354 := nk BK354 hb; replace BK428 := nk BK428 hb; replace HB := bs hb; clear hb ho201; obtain ⟨Ao202, co202, eo202⟩ := Kd.R_slice HO446.out; subst eo202) | (go_at_call 13; (with_reducible refine (impl_SpreadTimes.calls kj182 a7 _ _ y444 t447 true _ ?side1 ?side2 A193.out).mono ?_); (case side1 => repeat (first | exact (Kd.R_reads' HO446.out).2.2 | (with_reducible refine Kd.C_alloc ?_ _) | (with_reducible refine Kd.C_drewN ?_ _) | (with_reducible refine Kd.C_drew ?_))); (case side2 => exact (Kd.R_reads' HO446.out).2.1); rintro e w203 ⟨v449, rfl, ho0, hb⟩; have HO450 := Aside0.mk (Kd.R_lower (Kd.R_new' (Kd.R_new' ho0 (Kd.R_lt (pr HO_55))) (Kd.R_lt (pr HO446))) (below_size bw)); replace HO_55 := Aside0.mk (Kd.R_elder' (pr HO_55) (Kd.R_base ho0) hb); replace HO446 := Aside0.mk (Kd.R_elder' (pr HO446) (Kd.R_base ho0) hb); replace BK354 := nk BK354 hb; replace BK428 := nk BK428 hb; replace HB := bs hb; (try clear hb); (try clear ho0); obtain ⟨Ao204, co204, eo204⟩ := Kd.R_slice HO_55.out; subst eo204; have p451 : 0 ≤ (a8 : Int) := of_decide_eq_true (by first | (with_reducible assumption) | assumption); have q451 : a8 < (t406.length : Int) := of_decide_eq_true (by first | (with_reducible assumption) | assumption); obtain ⟨ad451, e451, hx451_0⟩ := Kd.at_int (Kd.R_reads' HO_55.out).2.2 a8 p451 q451; cases e451; replace p451 := eq_true p451; replace q451 := eq_true q451) | (go_at_call 29; (with_reducible refine (laws_vMost.calls kj182 _ _ t406 t452 _ ?side1 ?side2 A198.out).mono ?_); (case side1 => repeat (first | exact (Kd.R_reads' HO_55.out).2.2 | (with_reducible refine Kd.C_alloc ?_ _) | (with_reducible refine Kd.C_drewN ?_ _) | (with_reducible refine Kd.C_drew ?_))); (case side2 => exact (Kd.R_reads' HO_55.out).2.1); rintro e w' ⟨rfl, ⟨nd, rfl⟩⟩; (try first | exact ⟨rfl, _, World.drewN_drewN _ _ _⟩ | exact ⟨rfl, _, Eq.trans (World.drewN_drewN _ _ _) (congrArg (World.drewN _) (Nat.add_assoc _ _ _))⟩))); try go_wp2_with (first | ((with_reducible refine gate_dst (N := 491) rfl ?_); (try (refine gate_guard (by rfl) ?_; dsimp only)); refine Kd.R_lit (Kd.int .i64) _ 3 ?hg (N := 491) ?hd (xs := ([a8] : List Int)) (inner := [.int .i64 a8]) (ok := fun _ => True) (okp := fun _ => True) ?hr ?hp (fun _ hk => hk) trivial (Below.refl _ _) (Nat.le_refl _) (by simp) ?_; (case hd => rfl); (case hg => rfl); (case hr => first | (go_simp; done) | (go_simp; rfl)); (case hp => exact (Reps.one (show Kd.M (Kd.int .i64) _ _ _ a8 [.int .i64 a8] from rfl) (Reps.none _ _))); intro v445 w200 ho201 hb hg_ hnew_; clear hg_ hnew_; (first | rw [← Ny444.out] at ho201 | (simp only [Int.reduceToNat] at ho201; rw [← Ny444.out] at ho201)); have HO446 := Aside0.mk (Kd.R_lower (Kd.R_new' ho201 (Kd.R_lt (pr HO_55))) (below_size bw)); replace HO_55 := Aside0.mk (Kd.R_elder' (pr HO_55) (Kd.R_base ho201) hb); replace BK354 := nk BK354 hb; replace BK428 := nk BK428 hb; replace HB := bs hb; clear hb ho201; obtain ⟨Ao202, co202, eo202⟩ := Kd.R_slice HO446.out; subst eo202) | (go_at_call 13; (with_reducible refine (impl_SpreadTimes.calls kj182 a7 _ _ y444 t447 true _ ?side1 ?side2 A193.out).mono ?_); (case side1 => repeat (first | exact (Kd.R_reads' HO446.out).2.2 | (with_reducible refine Kd.C_alloc ?_ _) | (with_reducible refine Kd.C_drewN ?_ _) | (with_reducible refine Kd.C_drew ?_))); (case side2 => exact (Kd.R_reads' HO446.out).2.1); rintro e w203 ⟨v449, rfl, ho0, hb⟩; have HO450 := Aside0.mk (Kd.R_lower (Kd.R_new' (Kd.R_new' ho0 (Kd.R_lt (pr HO_55))) (Kd.R_lt (pr HO446))) (below_size bw)); replace HO_55 := Aside0.mk (Kd.R_elder' (pr HO_55) (Kd.R_base ho0) hb); replace HO446 := Aside0.mk (Kd.R_elder' (pr HO446) (Kd.R_base ho0) hb); replace BK354 := nk BK354 hb; replace BK428 := nk BK428 hb; replace HB := bs hb; (try clear hb); (try clear ho0); obtain ⟨Ao204, co204, eo204⟩ := Kd.R_slice HO_55.out; subst eo204; have p451 : 0 ≤ (a8 : Int) := of_decide_eq_true (by first | (with_reducible assumption) | assumption); have q451 : a8 < (t406.length : Int) := of_decide_eq_true (by first | (with_reducible assumption) | assumption); obtain ⟨ad451, e451, hx451_0⟩ := Kd.at_int (Kd.R_reads' HO_55.out).2.2 a8 p451 q451; cases e451; replace p451 := eq_true p451; replace q451 := eq_true q451) | (go_at_call 29; (with_reducible refine (laws_vMost.calls kj182 _ _ t406 t452 _ ?side1 ?side2 A198.out).mono ?_); (case side1 => repeat (first | exact (Kd.R_reads' HO_55.out).2.2 | (with_reducible refine Kd.C_alloc ?_ _) | (with_reducible refine Kd.C_drewN ?_ _) | (with_reducible refine Kd.C_drew ?_))); (case side2 => exact (Kd.R_reads' HO_55.out).2.1); rintro e w' ⟨rfl, ⟨nd, rfl⟩⟩; (try first | exact ⟨rfl, _, World.drewN_drewN _ _ _⟩ | exact ⟨rfl, _, Eq.trans (World.drewN_drewN _ _ _) (congrArg (World.drewN _) (Nat.add_assoc _ _ _))⟩))))
                       go_loopg [514] kj182 (fun kq v514 w' => ∃ (x514_7 : Int), v514 = .int .i64 x514_7 ∧ Aside0 (laws_FnSignalsReachOfAll.l3 kq a8 a9 a11 t406 t414 t415 t416 t420 t421 t427 t447 t406 (t406.length : Int) x514_7 a10_0 a10_1 a10_2 t424 t425 t426 = some r) ∧ Aside0 (kq ≤ kj182) ∧ Aside0 (Kd.R (Kd.int .i64) 3 w' w.heap.size (fun k_ => some k_ ≠ (v449 : Value).ownBlock) (.slice (some ad451) t406.length co204) t406) ∧ Aside0 (Kd.R (Kd.int .i64) 3 w' w.heap.size (fun k_ => some k_ ≠ ((.slice (some ad451) t406.length co204) : Value).ownBlock ∧ some k_ ≠ ((.slice (some ad451) t406.length co204) : Value).ownBlock) v449 t447) ∧ Aside0 (Kd.R (Kd.int .i64) 3 w' w.heap.size (fun k_ => some k_ ≠ (v449 : Value).ownBlock) (.slice (some ad451) t406.length co204) t406) ∧ Aside0 (w'.heap[gb354]? = some (.cells #[.int .i64 a10_0, .bool a10_1, .int .i64 a10_2] 25 (0, 0))) ∧ Aside0 (w'.heap[gb428]? = some (.cells #[.int .i64 t424, .bool t425, .int .i64 t426] 25 (0, 0))) ∧ Aside0 (Below w.heap.size w w'))
                       case atStart => exact ⟨(0), (rs), H', ⟨Nat.le_refl _⟩, ⟨by (with_reducible repeat (first | apply Kd.R_alloc | apply Kd.R_drewN | apply Kd.R_drew)); exact Kd.R_mono HO_55.out (fun _ hk => hk.2)⟩, ⟨by (with_reducible repeat (first | apply Kd.R_alloc | apply Kd.R_drewN | apply Kd.R_drew)); exact Kd.R_mono HO450.out (fun _ hk => ⟨hk.1.2, hk.1.2⟩)⟩, ⟨by (with_reducible repeat (first | apply Kd.R_alloc | apply Kd.R_drewN | apply Kd.R_drew)); exact Kd.R_mono HO_55.out (fun _ hk => hk.2)⟩, ⟨pk BK354⟩, ⟨pk BK428⟩, ⟨bw⟩⟩
                       case round =>
                        clear H'
                        repeat (first|clear c1|clear c2|clear p2|clear c3|clear p3|clear q3|clear hx3|clear c4|clear p4|clear q4|clear hx4|clear c5|clear c6|clear p6|clear c7|clear c11|clear c12|clear c13|clear c14|clear c15|clear c15b0|clear c15b1|clear c16|clear c16b0|clear c16b1|clear c17|clear c18|clear c19|clear c27|clear c27b0|clear c27b1|clear c27b2|clear c29|clear c30|clear c30b0|clear c30b1|clear c30b2|clear c31|clear c31b0|clear c31b1|clear c34|clear c34b0|clear c34b1|clear c34b2|clear c35|clear c36|clear p37|clear q37|clear hx37|clear p38|clear q38|clear hx38|clear c43|clear p43|clear q43|clear hx43|clear p44|clear q44|clear hx44|clear p45|clear q45|clear hx45|clear c54|clear c56|clear c58|clear c59|clear c59b0|clear c59b1|clear c59b2|clear c61|clear c61b0|clear c62|clear c62b0|clear c63|clear c63b0|clear p64|clear c65|clear c67|clear c69|clear c69b0|clear c71|clear c72|clear c72b0|clear c72b1|clear c75|clear c75b0|clear c76|clear c76b0|clear c77|clear c77b0|clear c79|clear c113|clear c117|clear c118|clear c120|clear c120b0|clear c120b1|clear c120b2|clear c122|clear c123|clear c123b0|clear c123b1|clear c123b2|clear c124|clear c124b0|clear c124b1|clear c125|clear c125b0|clear c125b1|clear c125b2|clear c127|clear c128|clear c128b0|clear c128b1|clear c128b2|clear c129|clear c129b0|clear c129b1|clear c130|clear c130b0|clear c130b1|clear c130b2|clear c132|clear c133|clear c133b0|clear c133b1|clear c133b2|clear c134|clear c134b0|clear c134b1|clear c135|clear c135b0|clear c135b1|clear c136|clear c136b0|clear c136b1|clear c136b2|clear c137|clear c137b0|clear c137b1|clear c138|clear c138b0|clear c138b1|clear c138b2|clear c139|clear c139b0|clear c140|clear c140b0|clear c140b1|clear c140b2|clear c141|clear c148|clear c149|clear c151|clear c159|clear c160|clear c162|clear c164|clear c166|clear c167|clear c167b0|clear c167b1|clear c169|clear c169b0|clear c169b1|clear c171|clear c171b0|clear c172|clear c172b0|clear c173|clear c173b0|clear c174|clear c174b0|clear c176|clear c176b0|clear c176b1|clear c176b2|clear c177|clear c177b0|clear c179|clear c179b0|clear c180|clear c180b0|clear c181|clear c181b0|clear c182|clear c182b0|clear c184|clear c186|clear c186b0|clear c186b1|clear c187|clear c188|clear c188b0|clear c188b1|clear c192|clear c194|clear c195|clear c195b0|clear c195b1|clear c196|clear c196b0|clear c197|clear c197b0|clear c199|clear c199b0|clear c199b1|clear hcz107_0|clear hcz107_1|clear hcz107_2|clear hcz109_0|clear hcz109_1|clear hcz109_2|clear hcz114_0|clear hcz114_1|clear hcz114_2|clear hcz119_0|clear hcz119_1|clear hcz119_2|clear hcz150_0|clear hcz150_1|clear hcz150_2|clear hcz152_0|clear hcz152_1|clear hcz152_2|clear hcz161_0|clear hcz161_1|clear hcz161_2|clear hcz163_0|clear hcz163_1|clear hcz163_2|clear hcz68_0|clear hcz68_1|clear hcz68_2|clear hfz107_0|clear hfz107_1|clear hfz107_2|clear hfz109_0|clear hfz109_1|clear hfz109_2|clear hfz114_0|clear hfz114_1|clear hfz114_2|clear hfz119_0|clear hfz119_1|clear hfz119_2|clear hfz150_0|clear hfz150_1|clear hfz150_2|clear hfz152_0|clear hfz152_1|clear hfz152_2|clear hfz161_0|clear hfz161_1|clear hfz161_2|clear hfz163_0|clear hfz163_1|clear hfz163_2|clear hfz68_0|clear hfz68_1|clear hfz68_2|clear hx373_0|clear hx373_1|clear hx373_2|clear hx380_0|clear hx438_0|clear hx440_0|clear hx441_0|clear hx451_0|clear p373|clear p380|clear p438|clear p440|clear p441|clear p451|clear q373|clear q380|clear q438|clear q440|clear q441|clear q451)
                        obtain ⟨x514_7, rfl, HA, HK7, HO_55, HO_77, HO_512, BK354, BK428, HB⟩ := hrel
                        cases gk with
                        | zero => exact absurd HA.out (by simp [laws_FnSignalsReachOfAll.l3])
                        | succ k7 =>
                         have H := HA.out
                         clear HA
                         simp only [laws_FnSignalsReachOfAll.l3] at H
                         by_cases c205 : x514_7 < (t406.length : Int)
                         ·rw [if_pos c205] at H
                          have c205b0 : decide (x514_7 < (t406.length : Int)) = true := decide_eq_true c205
                          clear c205
                          by_cases c206 : 0 ≤ x514_7
                          ·rw [if_pos c206] at H
                           have c206b0 : decide (0 ≤ x514_7) = true := decide_eq_true c206
                           clear c206
                           by_cases c207 : x514_7 < (t406.length : Int)
                           ·rw [if_pos c207] at H
                            have c207b0 : decide (x514_7 < (t406.length : Int)) = true := decide_eq_true c207
                            clear c207
                            by_cases c208 : (rd t406 x514_7) < 0
                            ·rw [if_pos c208] at H
                             exact absurd (Option.some.inj H) (by rw [HRT.out]; decide)
                            ·rw [if_neg c208] at H
                             have c208b0 : decide ((rd t406 x514_7) < 0) = false := decide_eq_false c208
                             clear c208
                             by_cases c209 : x514_7 < (t447.length : Int)
                             ·rw [if_pos c209] at H
                              have c209b0 : decide (x514_7 < (t447.length : Int)) = true := decide_eq_true c209
                              clear c209
                              by_cases c210 : 0 ≤ a8
                              ·rw [if_pos c210] at H
                               have c210b0 : decide (0 ≤ a8) = true := decide_eq_true c210
                               clear c210
                               by_cases c211 : a8 < (t406.length : Int)
                               ·rw [if_pos c211] at H
                                have c211b0 : decide (a8 < (t406.length : Int)) = true := decide_eq_true c211
                                clear c211
                                by_cases c212 : (wrap64 ((rd t406 x514_7) + (rd t447 x514_7))) = (rd t406 a8)
                                ·rw [if_pos c212] at H
                                 have c212b0 : ((wrap64 ((rd t406 x514_7) + (rd t447 x514_7))) == (rd t406 a8)) = true := beq_iff_eq.mpr c212
                                 have c212b1 : ((wrap64 ((rd t406 x514_7) + (rd t447 x514_7))) != (rd t406 a8)) = false := bne_eq_false_iff_eq.mpr c212
                                 clear c212
                                 have H' := Aside0.mk H
                                 clear H
                                 have p453 : 0 ≤ (x514_7 : Int) := of_decide_eq_true (by first | (with_reducible assumption) | assumption)
                                 have q453 : x514_7 < (t406.length : Int) := of_decide_eq_true (by first | (with_reducible assumption) | assumption)
                                 obtain ⟨ad453, e453, hx453_0⟩ := Kd.at_int (Kd.R_reads' HO_512.out).2.2 x514_7 p453 q453
                                 obtain rfl : ad451 = ad453 := (by injection e453)
                                 replace p453 := eq_true p453
                                 replace q453 := eq_true q453
                                 obtain ⟨Ao213, co213, eo213⟩ := Kd.R_slice HO_77.out
                                 subst eo213
                                 have p454 : 0 ≤ (x514_7 : Int) := of_decide_eq_true (by first | (with_reducible assumption) | assumption)
                                 have q454 : x514_7 < (t447.length : Int) := of_decide_eq_true (by first | (with_reducible assumption) | assumption)
                                 obtain ⟨ad454, e454, hx454_0⟩ := Kd.at_int (Kd.R_reads' HO_77.out).2.2 x514_7 p454 q454
                                 cases e454
                                 replace p454 := eq_true p454
                                 replace q454 := eq_true q454
                                 have p455 : 0 ≤ (a8 : Int) := of_decide_eq_true (by first | (with_reducible assumption) | assumption)
                                 have q455 : a8 < (t406.length : Int) := of_decide_eq_true (by first | (with_reducible assumption) | assumption)
                                 obtain ⟨ad455, e455, hx455_0⟩ := Kd.at_int (Kd.R_reads' HO_55.out).2.2 a8 p455 q455
                                 obtain rfl : ad451 = ad455 := (by injection e455)
                                 replace p455 := eq_true p455
                                 replace q455 := eq_true q455
                                 go_wp2
                                 repeat (go_quiet (fail); try go_wp2)
                                 go_roundg k7
                                 case measure => have := HJ12.out; have := HJ21.out; have := HJ54.out; have := HJ95.out; have := HJ164.out; have := HJ182.out; have := HK7.out; omega
                                 case rel => exact ⟨(wrap64 (x514_7 + 1)), (rs), H', ⟨by have := HJ12.out; have := HJ21.out; have := HJ54.out; have := HJ95.out; have := HJ164.out; have := HJ182.out; have := HK7.out; omega⟩, ⟨pr HO_55⟩, ⟨pr HO_77⟩, ⟨pr HO_512⟩, ⟨pk BK354⟩, ⟨pk BK428⟩, ⟨bw⟩⟩
                                ·rw [if_neg c212] at H
                                 exact absurd (Option.some.inj H) (by rw [HRT.out]; decide)
                               ·rw [if_neg c211] at H
                                exact absurd H (by simp)
                              ·rw [if_neg c210] at H
                               exact absurd H (by simp)
                             ·rw [if_neg c209] at H
                              exact absurd H (by simp)
                           ·rw [if_neg c207] at H
                            exact absurd H (by simp)
                          ·rw [if_neg c206] at H
                           exact absurd H (by simp)
                         ·rw [if_neg c205] at H
                          have c205b0 : decide (x514_7 < (t406.length : Int)) = false := decide_eq_false c205
                          clear c205
                          have H' := Aside0.mk H
                          clear H
                          go_wp2
                          repeat (go_quiet (fail); try go_wp2)
                          go_meet
                          case rel => exact ⟨_, H', ⟨by have := HJ12.out; have := HJ21.out; have := HJ54.out; have := HJ95.out; have := HJ164.out; have := HJ182.out; have := HK7.out; first | omega | exact Nat.le_refl _⟩, ⟨pk BK354⟩, ⟨pk BK428⟩, ⟨bw⟩⟩
                      ·rw [if_neg c199] at H
                       exact absurd (Option.some.inj H) (by rw [HRT.out]; decide)
                     ·rw [if_neg c197] at H
                      exact absurd H (by simp)
                    ·rw [if_neg c196] at H
                     exact absurd H (by simp)
                   ·rw [if_neg c195] at H
                    exact absurd (Option.some.inj H) (by rw [HRT.out]; decide)
                  ·replace c194 := Bool.eq_false_iff.mpr c194
                   subst c194
                   rw [if_neg (show ¬ (false = true) by decide)] at H
                   exact absurd (Option.some.inj H) (by rw [HRT.out]; decide)
                 ·replace c192 := Bool.eq_false_iff.mpr c192
                  subst c192
                  rw [if_neg (show ¬ (false = true) by decide)] at H
                  have H' := Aside0.mk H
                  clear H
                  go_wp2
                  repeat (go_quiet (fail); try go_wp2)
                  go_meet
                  case rel => exact ⟨_, H', ⟨by have := HJ12.out; have := HJ21.out; have := HJ54.out; have := HJ95.out; have := HJ164.out; have := HJ182.out; first | omega | exact Nat.le_refl _⟩, ⟨pk BK354⟩, ⟨pk BK428⟩, ⟨bw⟩⟩
                case rest =>
                 clear HC191
                 repeat (first|clear c1|clear c2|clear p2|clear c3|clear p3|clear q3|clear hx3|clear c4|clear p4|clear q4|clear hx4|clear c5|clear c6|clear p6|clear c7|clear c11|clear c12|clear c13|clear c14|clear c15|clear c15b0|clear c15b1|clear c16|clear c16b0|clear c16b1|clear c17|clear c18|clear c19|clear c20|clear c21|clear c27|clear c27b0|clear c27b1|clear c27b2|clear c29|clear c30|clear c30b0|clear c30b1|clear c30b2|clear c31|clear c31b0|clear c31b1|clear c34|clear c34b0|clear c34b1|clear c34b2|clear c35|clear c36|clear p37|clear q37|clear hx37|clear p38|clear q38|clear hx38|clear c43|clear p43|clear q43|clear hx43|clear p44|clear q44|clear hx44|clear p45|clear q45|clear hx45|clear c54|clear c56|clear c58|clear c59|clear c59b0|clear c59b1|clear c59b2|clear c61|clear c61b0|clear c62|clear c62b0|clear c63|clear c63b0|clear p64|clear c65|clear c67|clear c69|clear c69b0|clear c71|clear c72|clear c72b0|clear c72b1|clear c75|clear c75b0|clear c76|clear c76b0|clear c77|clear c77b0|clear c79|clear c113|clear c117|clear c118|clear c120|clear c120b0|clear c120b1|clear c120b2|clear c122|clear c123|clear c123b0|clear c123b1|clear c123b2|clear c124|clear c124b0|clear c124b1|clear c125|clear c125b0|clear c125b1|clear c125b2|clear c127|clear c128|clear c128b0|clear c128b1|clear c128b2|clear c129|clear c129b0|clear c129b1|clear c130|clear c130b0|clear c130b1|clear c130b2|clear c132|clear c133|clear c133b0|clear c133b1|clear c133b2|clear c134|clear c134b0|clear c134b1|clear c135|clear c135b0|clear c135b1|clear c136|clear c136b0|clear c136b1|clear c136b2|clear c137|clear c137b0|clear c137b1|clear c138|clear c138b0|clear c138b1|clear c138b2|clear c139|clear c139b0|clear c140|clear c140b0|clear c140b1|clear c140b2|clear c141|clear c148|clear c149|clear c151|clear c159|clear c160|clear c162|clear c164|clear c166|clear c167|clear c167b0|clear c167b1|clear c169|clear c169b0|clear c169b1|clear c171|clear c171b0|clear c172|clear c172b0|clear c173|clear c173b0|clear c174|clear c174b0|clear c176|clear c176b0|clear c176b1|clear c176b2|clear c177|clear c177b0|clear c179|clear c179b0|clear c180|clear c180b0|clear c181|clear c181b0|clear c182|clear c182b0|clear c184|clear c186|clear c186b0|clear c186b1|clear c187|clear c188|clear c188b0|clear c188b1|clear c192|clear c194|clear c195|clear c195b0|clear c195b1|clear c196|clear c196b0|clear c197|clear c197b0|clear c199|clear c199b0|clear c199b1|clear c205|clear c205b0|clear c206|clear c206b0|clear c207|clear c207b0|clear c208|clear c208b0|clear c209|clear c209b0|clear c210|clear c210b0|clear c211|clear c211b0|clear c212|clear c212b0|clear c212b1|clear hcz107_0|clear hcz107_1|clear hcz107_2|clear hcz109_0|clear hcz109_1|clear hcz109_2|clear hcz114_0|clear hcz114_1|clear hcz114_2|clear hcz119_0|clear hcz119_1|clear hcz119_2|clear hcz150_0|clear hcz150_1|clear hcz150_2|clear hcz152_0|clear hcz152_1|clear hcz152_2|clear hcz161_0|clear hcz161_1|clear hcz161_2|clear hcz163_0|clear hcz163_1|clear hcz163_2|clear hcz68_0|clear hcz68_1|clear hcz68_2|clear hfz107_0|clear hfz107_1|clear hfz107_2|clear hfz109_0|clear hfz109_1|clear hfz109_2|clear hfz114_0|clear hfz114_1|clear hfz114_2|clear hfz119_0|clear hfz119_1|clear hfz119_2|clear hfz150_0|clear hfz150_1|clear hfz150_2|clear hfz152_0|clear hfz152_1|clear hfz152_2|clear hfz161_0|clear hfz161_1|clear hfz161_2|clear hfz163_0|clear hfz163_1|clear hfz163_2|clear hfz68_0|clear hfz68_1|clear hfz68_2|clear hx373_0|clear hx373_1|clear hx373_2|clear hx380_0|clear hx438_0|clear hx440_0|clear hx441_0|clear hx451_0|clear hx453_0|clear hx454_0|clear hx455_0|clear p373|clear p380|clear p438|clear p440|clear p441|clear p451|clear p453|clear p454|clear p455|clear q373|clear q380|clear q438|clear q440|clear q441|clear q451|clear q453|clear q454|clear q455)
                 obtain ⟨kq, HA, HJ190, BK354, BK428, HB⟩ := hcut
                 cases kq with
                 | zero => exact absurd HA.out (by simp [laws_FnSignalsReachOfAll.j10])
                 | succ kj190 =>
                  have H := HA.out
                  clear HA
                  simp only [laws_FnSignalsReachOfAll.j10] at H
                  have HC214 := Aside0.mk H
                  clear H
                  go_upto_region 69 with (fail)
                  repeat (go_quiet (fail); go_upto_region 69 with (fail))
                  go_cut [477, 478, 479, 480, 481, 482, 485, 486, 487, 494, 495, 496, 497, 501, 502, 503, 510, 511, 520, 521, 522, 523, 524, 525, 526, 527, 528, 529, 530, 531, 532, 533, 534, 540] from 9999 (fun _ _ _ _ _ _ _ _ _ _ _ _ _ _ _ _ _ _ _ _ _ _ _ _ _ _ _ _ _ _ _ _ _ v540 wc => ∃ (kq : Nat) (x540_213 : Bool), v540 = .bool x540_213 ∧ Aside0 (laws_FnSignalsReachOfAll.j11 kq a9 a11 t414 t415 t420 t421 t427 x540_213 a10_0 a10_1 a10_2 t424 t425 t426 = some r) ∧ Aside0 (kq ≤ kj190) ∧ Aside0 (wc.heap[gb354]? = some (.cells #[.int .i64 a10_0, .bool a10_1, .int .i64 a10_2] 25 (0, 0))) ∧ Aside0 (wc.heap[gb428]? = some (.cells #[.int .i64 t424, .bool t425, .int .i64 t426] 25 (0, 0))) ∧ Aside0 (Below w.heap.size w wc))
                  case first => as_aux_lemma =>
                   have H := HC214.out
                   clear HC214
                   by_cases c215 : t416 = true
                   ·subst c215
                    rw [if_pos rfl] at H
                    have H' := Aside0.mk H
                    clear H
                    go_wp2
                    repeat (go_quiet (fail); try go_wp2)
                    go_meet
                    case rel => exact ⟨_, (((Int.tmod a9 2) == 1)), (rs), H', ⟨by have := HJ12.out; have := HJ21.out; have := HJ54.out; have := HJ95.out; have := HJ164.out; have := HJ182.out; have := HJ190.out; first | omega | exact Nat.le_refl _⟩, ⟨pk BK354⟩, ⟨pk BK428⟩, ⟨bw⟩⟩
                   ·replace c215 := Bool.eq_false_iff.mpr c215
                    subst c215
                    rw [if_neg (show ¬ (false = true) by decide)] at H
                    have H' := Aside0.mk H
                    clear H
                    go_wp2
                    repeat (go_quiet (fail); try go_wp2)
                    go_meet
                    case rel => exact ⟨_, (false), (rs), H', ⟨by have := HJ12.out; have := HJ21.out; have := HJ54.out; have := HJ95.out; have := HJ164.out; have := HJ182.out; have := HJ190.out; first | omega | exact Nat.le_refl _⟩, ⟨pk BK354⟩, ⟨pk BK428⟩, ⟨bw⟩⟩
                  case rest =>
                   clear HC214
                   repeat (first|clear c1|clear c2|clear p2|clear c3|clear p3|clear q3|clear hx3|clear c4|clear p4|clear q4|clear hx4|clear c5|clear c6|clear p6|clear c7|clear c11|clear c12|clear c13|clear c14|clear c15|clear c15b0|clear c15b1|clear c16|clear c16b0|clear c16b1|clear c17|clear c18|clear c19|clear c20|clear c21|clear c27|clear c27b0|clear c27b1|clear c27b2|clear c29|clear c30|clear c30b0|clear c30b1|clear c30b2|clear c31|clear c31b0|clear c31b1|clear c34|clear c34b0|clear c34b1|clear c34b2|clear c35|clear c36|clear p37|clear q37|clear hx37|clear p38|clear q38|clear hx38|clear c43|clear p43|clear q43|clear hx43|clear p44|clear q44|clear hx44|clear p45|clear q45|clear hx45|clear c54|clear c56|clear c58|clear c59|clear c59b0|clear c59b1|clear c59b2|clear c61|clear c61b0|clear c62|clear c62b0|clear c63|clear c63b0|clear p64|clear c65|clear c67|clear c69|clear c69b0|clear c71|clear c72|clear c72b0|clear c72b1|clear c75|clear c75b0|clear c76|clear c76b0|clear c77|clear c77b0|clear c79|clear c113|clear c117|clear c118|clear c120|clear c120b0|clear c120b1|clear c120b2|clear c122|clear c123|clear c123b0|clear c123b1|clear c123b2|clear c124|clear c124b0|clear c124b1|clear c125|clear c125b0|clear c125b1|clear c125b2|clear c127|clear c128|clear c128b0|clear c128b1|clear c128b2|clear c129|clear c129b0|clear c129b1|clear c130|clear c130b0|clear c130b1|clear c130b2|clear c132|clear c133|clear c133b0|clear c133b1|clear c133b2|clear c134|clear c134b0|clear c134b1|clear c135|clear c135b0|clear c135b1|clear c136|clear c136b0|clear c136b1|clear c136b2|clear c137|clear c137b0|clear c137b1|clear c138|clear c138b0|clear c138b1|clear c138b2|clear c139|clear c139b0|clear c140|clear c140b0|clear c140b1|clear c140b2|clear c141|clear c148|clear c149|clear c151|clear c159|clear c160|clear c162|clear c164|clear c166|clear c167|clear c167b0|clear c167b1|clear c169|clear c169b0|clear c169b1|clear c171|clear c171b0|clear c172|clear c172b0|clear c173|clear c173b0|clear c174|clear c174b0|clear c176|clear c176b0|clear c176b1|clear c176b2|clear c177|clear c177b0|clear c179|clear c179b0|clear c180|clear c180b0|clear c181|clear c181b0|clear c182|clear c182b0|clear c184|clear c186|clear c186b0|clear c186b1|clear c187|clear c188|clear c188b0|clear c188b1|clear c192|clear c194|clear c195|clear c195b0|clear c195b1|clear c196|clear c196b0|clear c197|clear c197b0|clear c199|clear c199b0|clear c199b1|clear c205|clear c205b0|clear c206|clear c206b0|clear c207|clear c207b0|clear c208|clear c208b0|clear c209|clear c209b0|clear c210|clear c210b0|clear c211|clear c211b0|clear c212|clear c212b0|clear c212b1|clear c215|clear hcz107_0|clear hcz107_1|clear hcz107_2|clear hcz109_0|clear hcz109_1|clear hcz109_2|clear hcz114_0|clear hcz114_1|clear hcz114_2|clear hcz119_0|clear hcz119_1|clear hcz119_2|clear hcz150_0|clear hcz150_1|clear hcz150_2|clear hcz152_0|clear hcz152_1|clear hcz152_2|clear hcz161_0|clear hcz161_1|clear hcz161_2|clear hcz163_0|clear hcz163_1|clear hcz163_2|clear hcz68_0|clear hcz68_1|clear hcz68_2|clear hfz107_0|clear hfz107_1|clear hfz107_2|clear hfz109_0|clear hfz109_1|clear hfz109_2|clear hfz114_0|clear hfz114_1|clear hfz114_2|clear hfz119_0|clear hfz119_1|clear hfz119_2|clear hfz150_0|clear hfz150_1|clear hfz150_2|clear hfz152_0|clear hfz152_1|clear hfz152_2|clear hfz161_0|clear hfz161_1|clear hfz161_2|clear hfz163_0|clear hfz163_1|clear hfz163_2|clear hfz68_0|clear hfz68_1|clear hfz68_2|clear hx373_0|clear hx373_1|clear hx373_2|clear hx380_0|clear hx438_0|clear hx440_0|clear hx441_0|clear hx451_0|clear hx453_0|clear hx454_0|clear hx455_0|clear p373|clear p380|clear p438|clear p440|clear p441|clear p451|clear p453|clear p454|clear p455|clear q373|clear q380|clear q438|clear q440|clear q441|clear q451|clear q453|clear q454|clear q455)
                   obtain ⟨kq, x540_213, rfl, HA, HJ213, BK354, BK428, HB⟩ := hcut
                   cases kq with
                   | zero => exact absurd HA.out (by simp [laws_FnSignalsReachOfAll.j11])
                   | succ kj213 =>
                    have H := HA.out
                    clear HA
                    simp only [laws_FnSignalsReachOfAll.j11] at H
                    have HC216 := Aside0.mk H
                    clear H
                    go_upto_if 540 with (fail)
                    repeat (go_quiet (fail); go_upto_if 540 with (fail))
                    go_cut [481, 482, 485, 486, 487, 494, 495, 496, 497, 501, 502, 503, 510, 511, 520, 521, 527, 528, 529, 530, 531, 532, 533, 534, 535, 536, 537, 538, 539, 540] from 9999 (fun _ _ _ _ _ _ _ _ _ _ _ _ _ _ _ _ _ _ _ _ _ _ _ _ _ _ _ _ _ _ wc => ∃ (kq : Nat), Aside0 (laws_FnSignalsReachOfAll.j12 kq a11 t420 t421 t427 a10_0 a10_1 a10_2 t424 t425 t426 = some r) ∧ Aside0 (kq ≤ kj213) ∧ Aside0 (wc.heap[gb354]? = some (.cells #[.int .i64 a10_0, .bool a10_1, .int .i64 a10_2] 25 (0, 0))) ∧ Aside0 (wc.heap[gb428]? = some (.cells #[.int .i64 t424, .bool t425, .int .i64 t426] 25 (0, 0))) ∧ Aside0 (Below w.heap.size w wc))
                    case first => as_aux_lemma =>
                     have H := HC216.out
                     clear HC216
                     by_cases c217 : x540_213 = true
                     ·subst c217
                      rw [if_pos rfl] at H
                      by_cases c218 : (wrap64 (2 * t415)) = (wrap64 (a9 - 1))
                      ·rw [if_pos c218] at H
                       have c218b0 : ((wrap64 (2 * t415)) == (wrap64 (a9 - 1))) = true := beq_iff_eq.mpr c218
                       have c218b1 : ((wrap64 (2 * t415)) != (wrap64 (a9 - 1))) = false := bne_eq_false_iff_eq.mpr c218
                       clear c218
                       (first | rw [c218b0] | rw [@decide_eq_true _ _ (of_decide_eq_true c218b1)] | rw [@decide_eq_false _ _ (of_decide_eq_false c218b1)] | (simp only [i64_w, i32_w]; rw [c218b0]) | skip)
                       by_cases c219 : t414 = (wrap64 (3 * t415))
                       ·rw [if_pos c219] at H
                        have c219b0 : (t414 == (wrap64 (3 * t415))) = true := beq_iff_eq.mpr c219
                        have c219b1 : (t414 != (wrap64 (3 * t415))) = false := bne_eq_false_iff_eq.mpr c219
                        clear c219
                        have H' := Aside0.mk H
                        clear H
                        go_wp2
                        repeat (go_quiet (fail); try go_wp2)
                        go_meet
                        case rel => exact ⟨_, H', ⟨by have := HJ12.out; have := HJ21.out; have := HJ54.out; have := HJ95.out; have := HJ164.out; have := HJ182.out; have := HJ190.out; have := HJ213.out; first | omega | exact Nat.le_refl _⟩, ⟨pk BK354⟩, ⟨pk BK428⟩, ⟨bw⟩⟩
                       ·rw [if_neg c219] at H
                        exact absurd (Option.some.inj H) (by rw [HRT.out]; decide)
                      ·rw [if_neg c218] at H
                       exact absurd (Option.some.inj H) (by rw [HRT.out]; decide)
                     ·replace c217 := Bool.eq_false_iff.mpr c217
                      subst c217
                      rw [if_neg (show ¬ (false = true) by decide)] at H
                      have H' := Aside0.mk H
                      clear H
                      go_wp2
                      repeat (go_quiet (fail); try go_wp2)
                      go_meet
                      case rel => exact ⟨_, H', ⟨by have := HJ12.out; have := HJ21.out; have := HJ54.out; have := HJ95.out; have := HJ164.out; have := HJ182.out; have := HJ190.out; have := HJ213.out; first | omega | exact Nat.le_refl _⟩, ⟨pk BK354⟩, ⟨pk BK428⟩, ⟨bw⟩⟩
                    case rest =>
                     clear HC216
                     repeat (first|clear c1|clear c2|clear p2|clear c3|clear p3|clear q3|clear hx3|clear c4|clear p4|clear q4|clear hx4|clear c5|clear c6|clear p6|clear c7|clear c11|clear c12|clear c13|clear c14|clear c15|clear c15b0|clear c15b1|clear c16|clear c16b0|clear c16b1|clear c17|clear c18|clear c19|clear c20|clear c21|clear c27|clear c27b0|clear c27b1|clear c27b2|clear c29|clear c30|clear c30b0|clear c30b1|clear c30b2|clear c31|clear c31b0|clear c31b1|clear c34|clear c34b0|clear c34b1|clear c34b2|clear c35|clear c36|clear p37|clear q37|clear hx37|clear p38|clear q38|clear hx38|clear c43|clear p43|clear q43|clear hx43|clear p44|clear q44|clear hx44|clear p45|clear q45|clear hx45|clear c54|clear c56|clear c58|clear c59|clear c59b0|clear c59b1|clear c59b2|clear c61|clear c61b0|clear c62|clear c62b0|clear c63|clear c63b0|clear p64|clear c65|clear c67|clear c69|clear c69b0|clear c71|clear c72|clear c72b0|clear c72b1|clear c75|clear c75b0|clear c76|clear c76b0|clear c77|clear c77b0|clear c79|clear c113|clear c117|clear c118|clear c120|clear c120b0|clear c120b1|clear c120b2|clear c122|clear c123|clear c123b0|clear c123b1|clear c123b2|clear c124|clear c124b0|clear c124b1|clear c125|clear c125b0|clear c125b1|clear c125b2|clear c127|clear c128|clear c128b0|clear c128b1|clear c128b2|clear c129|clear c129b0|clear c129b1|clear c130|clear c130b0|clear c130b1|clear c130b2|clear c132|clear c133|clear c133b0|clear c133b1|clear c133b2|clear c134|clear c134b0|clear c134b1|clear c135|clear c135b0|clear c135b1|clear c136|clear c136b0|clear c136b1|clear c136b2|clear c137|clear c137b0|clear c137b1|clear c138|clear c138b0|clear c138b1|clear c138b2|clear c139|clear c139b0|clear c140|clear c140b0|clear c140b1|clear c140b2|clear c141|clear c148|clear c149|clear c151|clear c159|clear c160|clear c162|clear c164|clear c166|clear c167|clear c167b0|clear c167b1|clear c169|clear c169b0|clear c169b1|clear c171|clear c171b0|clear c172|clear c172b0|clear c173|clear c173b0|clear c174|clear c174b0|clear c176|clear c176b0|clear c176b1|clear c176b2|clear c177|clear c177b0|clear c179|clear c179b0|clear c180|clear c180b0|clear c181|clear c181b0|clear c182|clear c182b0|clear c184|clear c186|clear c186b0|clear c186b1|clear c187|clear c188|clear c188b0|clear c188b1|clear c192|clear c194|clear c195|clear c195b0|clear c195b1|clear c196|clear c196b0|clear c197|clear c197b0|clear c199|clear c199b0|clear c199b1|clear c205|clear c205b0|clear c206|clear c206b0|clear c207|clear c207b0|clear c208|clear c208b0|clear c209|clear c209b0|clear c210|clear c210b0|clear c211|clear c211b0|clear c212|clear c212b0|clear c212b1|clear c215|clear c217|clear c218|clear c218b0|clear c218b1|clear c219|clear c219b0|clear c219b1|clear hcz107_0|clear hcz107_1|clear hcz107_2|clear hcz109_0|clear hcz109_1|clear hcz109_2|clear hcz114_0|clear hcz114_1|clear hcz114_2|clear hcz119_0|clear hcz119_1|clear hcz119_2|clear hcz150_0|clear hcz150_1|clear hcz150_2|clear hcz152_0|clear hcz152_1|clear hcz152_2|clear hcz161_0|clear hcz161_1|clear hcz161_2|clear hcz163_0|clear hcz163_1|clear hcz163_2|clear hcz68_0|clear hcz68_1|clear hcz68_2|clear hfz107_0|clear hfz107_1|clear hfz107_2|clear hfz109_0|clear hfz109_1|clear hfz109_2|clear hfz114_0|clear hfz114_1|clear hfz114_2|clear hfz119_0|clear hfz119_1|clear hfz119_2|clear hfz150_0|clear hfz150_1|clear hfz150_2|clear hfz152_0|clear hfz152_1|clear hfz152_2|clear hfz161_0|clear hfz161_1|clear hfz161_2|clear hfz163_0|clear hfz163_1|clear hfz163_2|clear hfz68_0|clear hfz68_1|clear hfz68_2|clear hx373_0|clear hx373_1|clear hx373_2|clear hx380_0|clear hx438_0|clear hx440_0|clear hx441_0|clear hx451_0|clear hx453_0|clear hx454_0|clear hx455_0|clear p373|clear p380|clear p438|clear p440|clear p441|clear p451|clear p453|clear p454|clear p455|clear q373|clear q380|clear q438|clear q440|clear q441|clear q451|clear q453|clear q454|clear q455)
                     obtain ⟨kq, HA, HJ215, BK354, BK428, HB⟩ := hcut
                     cases kq with
                     | zero => exact absurd HA.out (by simp [laws_FnSignalsReachOfAll.j12])
                     | succ kj215 =>
                      have H := HA.out
                      clear HA
                      simp only [laws_FnSignalsReachOfAll.j12] at H
                      by_cases c220 : t421 = true
                      ·subst c220
                       rw [if_pos rfl] at H
                       replace H := Option.bind_eq_some_iff.mp H
                       obtain ⟨⟨t456, t457, t458, t459⟩, A2210, H⟩ := H
                       (try dsimp only at H)
                       have A221 := Aside0.mk A2210
                       clear A2210
                       by_cases c222 : t459 = true
                       ·subst c222
                        rw [if_pos rfl] at H
                        by_cases c223 : (!(t456 == a10_0) || (!(t457 == a10_1) || (!(t458 == a10_2)))) = true
                        ·rw [if_pos c223] at H
                         exact absurd (Option.some.inj H) (by rw [HRT.out]; decide)
                        ·rw [if_neg c223] at H
                         have c223b0 : (!(t456 == a10_0) || (!(t457 == a10_1) || (!(t458 == a10_2)))) = false := by simpa using c223
                         clear c223
                         by_cases c224 : t427 = true
                         ·subst c224
                          rw [if_pos rfl] at H
                          replace H := Option.bind_eq_some_iff.mp H
                          obtain ⟨⟨t461, t462⟩, A2250, H⟩ := H
                          (try dsimp only at H)
                          have A225 := Aside0.mk A2250
                          clear A2250
                          by_cases c226 : t462 = true
                          ·subst c226
                           rw [if_pos rfl] at H
                           obtain rfl := Option.some.inj H
                           go_wp2_with (first | (go_at_call 27; (with_reducible refine (impl_ParseSignal.calls t420 t456 t457 t458 true _ ?side1 A221.out).mono ?_); (case side1 => exact Dr.mm HMM); rintro e w227 ⟨rfl, hb⟩; replace BK354 := nk BK354 hb; replace BK428 := nk BK428 hb; replace HB := bs hb; (try clear hb)) | ((with_reducible refine gate_dst (N := 81) rfl ?_); (try (refine gate_guard (by rfl) ?_; dsimp only)); refine bx 81 25 #[.int .i64 0, .bool false, .int .i64 0] ?_; intro gb460 hg w228 hbox hb; have BK460 := hbox; have GW460 := gs hg; have GE460 := gs hg; replace HB := bs hb; have NB354_460 := nl BK354 hg; have NB460_354 := ng BK354 hg; replace BK354 := nk BK354 hb; have NB428_460 := nl BK428 hg; have NB460_428 := ng BK428 hg; replace BK428 := nk BK428 hb; clear hb hbox hg; have hnb229 := NB460_354.out; have hnc229 := NB354_460.out; have hnb230 := NB460_428.out; have hnc230 := NB428_460.out; have hcz231_0 := bc BK460 0 (.int .i64 0); have hcz231_1 := bc BK460 1 (.bool false); have hcz231_2 := bc BK460 2 (.int .i64 0); have hfz231_0 := blk_frozen BK460.out 0; have hfz231_1 := blk_frozen BK460.out 1; have hfz231_2 := blk_frozen BK460.out 2; have hnb232 := NB354_428.out; have hnc232 := NB428_354.out; have hcz233_0 := bc BK354 0 (.int .i64 a10_0); have hcz233_1 := bc BK354 1 (.bool a10_1); have hcz233_2 := bc BK354 2 (.int .i64 a10_2); have hfz233_0 := blk_frozen BK354.out 0; have hfz233_1 := blk_frozen BK354.out 1; have hfz233_2 := blk_frozen BK354.out 2; have hcz234_0 := bc BK428 0 (.int .i64 t424); have hcz234_1 := bc BK428 1 (.bool t425); have hcz234_2 := bc BK428 2 (.int .i64 t426); have hfz234_0 := blk_frozen BK428.out 0; have hfz234_1 := blk_frozen BK428.out 1; have hfz234_2 := blk_frozen BK428.out 2) | (go_at_call 25; (with_reducible refine (impl_SignalText.calls t424 t425 t426 t461 true _ A225.out).mono ?_); rintro e w235 ⟨rfl, hb⟩; replace BK354 := nf_ BK354 hb; replace BK428 := nf_ BK428 hb; replace BK460 := Aside0.mk (blk_below (g := gb460) (o := .cells #[.int .i64 t456, .bool t457, .int .i64 t458] 25 (0, 0)) (by (with_reducible repeat (first | refine blk_drewN ?_ _ | refine blk_drew ?_ | refine blk_alloc ?_ _)); refine blk_put (cs := #[.int .i64 t456, .bool t457, .int .i64 0]) ?_ 2 _ rfl; (with_reducible repeat (first | refine blk_drewN ?_ _ | refine blk_drew ?_ | refine blk_alloc ?_ _)); refine blk_put (cs := #[.int .i64 t456, .bool false, .int .i64 0]) ?_ 1 _ rfl; (with_reducible repeat (first | refine blk_drewN ?_ _ | refine blk_drew ?_ | refine blk_alloc ?_ _)); refine blk_put (cs := #[.int .i64 0, .bool false, .int .i64 0]) ?_ 0 _ rfl; (with_reducible repeat (first | refine blk_drewN ?_ _ | refine blk_drew ?_ | refine blk_alloc ?_ _)); exact BK460.out) hb); replace HB := bs hb; (try clear hb)))
                           repeat (go_quiet (first | (go_at_call 27; (with_reducible refine (impl_ParseSignal.calls t420 t456 t457 t458 true _ ?side1 A221.out).mono ?_); (case side1 => exact Dr.mm HMM); rintro e w227 ⟨rfl, hb⟩; replace BK354 := nk BK354 hb; replace BK428 := nk BK428 hb; replace HB := bs hb; (try clear hb)) | ((with_reducible refine gate_dst (N := 81) rfl ?_); (try (refine gate_guard (by rfl) ?_; dsimp only)); refine bx 81 25 #[.int .i64 0, .bool false, .int .i64 0] ?_; intro gb460 hg w228 hbox hb; have BK460 := hbox; have GW460 := gs hg; have GE460 := gs hg; replace HB := bs hb; have NB354_460 := nl BK354 hg; have NB460_354 := ng BK354 hg; replace BK354 := nk BK354 hb; have NB428_460 := nl BK428 hg; have NB460_428 := ng BK428 hg; replace BK428 := nk BK428 hb; clear hb hbox hg; have hnb229 := NB460_354.out; have hnc229 := NB354_460.out; have hnb230 := NB460_428.out; have hnc230 := NB428_460.out; have hcz231_0 := bc BK460 0 (.int .i64 0); have hcz231_1 := bc BK460 1 (.bool false); have hcz231_2 := bc BK460 2 (.int .i64 0); have hfz231_0 := blk_frozen BK460.out 0; have hfz231_1 := blk_frozen BK460.out 1; have hfz231_2 := blk_frozen BK460.out 2; have hnb232 := NB354_428.out; have hnc232 := NB428_354.out; have hcz233_0 := bc BK354 0 (.int .i64 a10_0); have hcz233_1 := bc BK354 1 (.bool a10_1); have hcz233_2 := bc BK354 2 (.int .i64 a10_2); have hfz233_0 := blk_frozen BK354.out 0; have hfz233_1 := blk_frozen BK354.out 1; have hfz233_2 := blk_frozen BK354.out 2; have hcz234_0 := bc BK428 0 (.int .i64 t424); have hcz234_1 := bc BK428 1 (.bool t425); have hcz234_2 := bc BK428 2 (.int .i64 t426); have hfz234_0 := blk_frozen BK428.out 0; have hfz234_1 := blk_frozen BK428.out 1; have hfz234_2 := blk_frozen BK428.out 2) | (go_at_call 25; (with_reducible refine (impl_SignalText.calls t424 t425 t426 t461 true _ A225.out).mono ?_); rintro e w235 ⟨rfl, hb⟩; replace BK354 := nf_ BK354 hb; replace BK428 := nf_ BK428 hb; replace BK460 := Aside0.mk (blk_below (g := gb460) (o := .cells #[.int .i64 t456, .bool t457, .int .i64 t458] 25 (0, 0)) (by (with_reducible repeat (first | refine blk_drewN ?_ _ | refine blk_drew ?_ | refine blk_alloc ?_ _)); refine blk_put (cs := #[.int .i64 t456, .bool t457, .int .i64 0]) ?_ 2 _ rfl; (with_reducible repeat (first | refine blk_drewN ?_ _ | refine blk_drew ?_ | refine blk_alloc ?_ _)); refine blk_put (cs := #[.int .i64 t456, .bool false, .int .i64 0]) ?_ 1 _ rfl; (with_reducible repeat (first | refine blk_drewN ?_ _ | refine blk_drew ?_ | refine blk_alloc ?_ _)); refine blk_put (cs := #[.int .i64 0, .bool false, .int .i64 0]) ?_ 0 _ rfl; (with_reducible repeat (first | refine blk_drewN ?_ _ | refine blk_drew ?_ | refine blk_alloc ?_ _)); exact BK460.out) hb); replace HB := bs hb; (try clear hb))); try go_wp2_with (first | (go_at_call 27; (with_reducible refine (impl_ParseSignal.calls t420 t456 t457 t458 true _ ?side1 A221.out).mono ?_); (case side1 => exact Dr.mm HMM); rintro e w227 ⟨rfl, hb⟩; replace BK354 := nk BK354 hb; replace BK428 := nk BK428 hb; replace HB := bs hb; (try clear hb)) | ((with_reducible refine gate_dst (N := 81) rfl ?_); (try (refine gate_guard (by rfl) ?_; dsimp only)); refine bx 81 25 #[.int .i64 0, .bool false, .int .i64 0] ?_; intro gb460 hg w228 hbox hb; have BK460 := hbox; have GW460 := gs hg; have GE460 := gs hg; replace HB := bs hb; have NB354_460 := nl BK354 hg; have NB460_354 := ng BK354 hg; replace BK354 := nk BK354 hb; have NB428_460 := nl BK428 hg; have NB460_428 := ng BK428 hg; replace BK428 := nk BK428 hb; clear hb hbox hg; have hnb229 := NB460_354.out; have hnc229 := NB354_460.out; have hnb230 := NB460_428.out; have hnc230 := NB428_460.out; have hcz231_0 := bc BK460 0 (.int .i64 0); have hcz231_1 := bc BK460 1 (.bool false); have hcz231_2 := bc BK460 2 (.int .i64 0); have hfz231_0 := blk_frozen BK460.out 0; have hfz231_1 := blk_frozen BK460.out 1; have hfz231_2 := blk_frozen BK460.out 2; have hnb232 := NB354_428.out; have hnc232 := NB428_354.out; have hcz233_0 := bc BK354 0 (.int .i64 a10_0); have hcz233_1 := bc BK354 1 (.bool a10_1); have hcz233_2 := bc BK354 2 (.int .i64 a10_2); have hfz233_0 := blk_frozen BK354.out 0; have hfz233_1 := blk_frozen BK354.out 1; have hfz233_2 := blk_frozen BK354.out 2; have hcz234_0 := bc BK428 0 (.int .i64 t424); have hcz234_1 := bc BK428 1 (.bool t425); have hcz234_2 := bc BK428 2 (.int .i64 t426); have hfz234_0 := blk_frozen BK428.out 0; have hfz234_1 := blk_frozen BK428.out 1; have hfz234_2 := blk_frozen BK428.out 2) | (go_at_call 25; (with_reducible refine (impl_SignalText.calls t424 t425 t426 t461 true _ A225.out).mono ?_); rintro e w235 ⟨rfl, hb⟩; replace BK354 := nf_ BK354 hb; replace BK428 := nf_ BK428 hb; replace BK460 := Aside0.mk (blk_below (g := gb460) (o := .cells #[.int .i64 t456, .bool t457, .int .i64 t458] 25 (0, 0)) (by (with_reducible repeat (first | refine blk_drewN ?_ _ | refine blk_drew ?_ | refine blk_alloc ?_ _)); refine blk_put (cs := #[.int .i64 t456, .bool t457, .int .i64 0]) ?_ 2 _ rfl; (with_reducible repeat (first | refine blk_drewN ?_ _ | refine blk_drew ?_ | refine blk_alloc ?_ _)); refine blk_put (cs := #[.int .i64 t456, .bool false, .int .i64 0]) ?_ 1 _ rfl; (with_reducible repeat (first | refine blk_drewN ?_ _ | refine blk_drew ?_ | refine blk_alloc ?_ _)); refine blk_put (cs := #[.int .i64 0, .bool false, .int .i64 0]) ?_ 0 _ rfl; (with_reducible repeat (first | refine blk_drewN ?_ _ | refine blk_drew ?_ | refine blk_alloc ?_ _)); exact BK460.out) hb); replace HB := bs hb; (try clear hb))))
                           go_ret
                           exact ⟨rs, bw⟩
                          ·replace c226 := Bool.eq_false_iff.mpr c226
                           subst c226
                           rw [if_neg (show ¬ (false = true) by decide)] at H
                           exact absurd (Option.some.inj H) (by rw [HRT.out]; decide)
                         ·replace c224 := Bool.eq_false_iff.mpr c224
                          subst c224
                          rw [if_neg (show ¬ (false = true) by decide)] at H
                          obtain rfl := Option.some.inj H
                          go_wp2_with (first | (go_at_call 27; (with_reducible refine (impl_ParseSignal.calls t420 t456 t457 t458 true _ ?side1 A221.out).mono ?_); (case side1 => exact Dr.mm HMM); rintro e w236 ⟨rfl, hb⟩; replace BK354 := nk BK354 hb; replace BK428 := nk BK428 hb; replace HB := bs hb; (try clear hb)) | ((with_reducible refine gate_dst (N := 81) rfl ?_); (try (refine gate_guard (by rfl) ?_; dsimp only)); refine bx 81 25 #[.int .i64 0, .bool false, .int .i64 0] ?_; intro gb460 hg w237 hbox hb; have BK460 := hbox; have GW460 := gs hg; have GE460 := gs hg; replace HB := bs hb; have NB354_460 := nl BK354 hg; have NB460_354 := ng BK354 hg; replace BK354 := nk BK354 hb; clear hb hbox hg; have hnb238 := NB460_354.out; have hnc238 := NB354_460.out; have hcz239_0 := bc BK460 0 (.int .i64 0); have hcz239_1 := bc BK460 1 (.bool false); have hcz239_2 := bc BK460 2 (.int .i64 0); have hfz239_0 := blk_frozen BK460.out 0; have hfz239_1 := blk_frozen BK460.out 1; have hfz239_2 := blk_frozen BK460.out 2; have hcz240_0 := bc BK354 0 (.int .i64 a10_0); have hcz240_1 := bc BK354 1 (.bool a10_1); have hcz240_2 := bc BK354 2 (.int .i64 a10_2); have hfz240_0 := blk_frozen BK354.out 0; have hfz240_1 := blk_frozen BK354.out 1; have hfz240_2 := blk_frozen BK354.out 2))
                          repeat (go_quiet (first | (go_at_call 27; (with_reducible refine (impl_ParseSignal.calls t420 t456 t457 t458 true _ ?side1 A221.out).mono ?_); (case side1 => exact Dr.mm HMM); rintro e w236 ⟨rfl, hb⟩; replace BK354 := nk BK354 hb; replace BK428 := nk BK428 hb; replace HB := bs hb; (try clear hb)) | ((with_reducible refine gate_dst (N := 81) rfl ?_); (try (refine gate_guard (by rfl) ?_; dsimp only)); refine bx 81 25 #[.int .i64 0, .bool false, .int .i64 0] ?_; intro gb460 hg w237 hbox hb; have BK460 := hbox; have GW460 := gs hg; have GE460 := gs hg; replace HB := bs hb; have NB354_460 := nl BK354 hg; have NB460_354 := ng BK354 hg; replace BK354 := nk BK354 hb; clear hb hbox hg; have hnb238 := NB460_354.out; have hnc238 := NB354_460.out; have hcz239_0 := bc BK460 0 (.int .i64 0); have hcz239_1 := bc BK460 1 (.bool false); have hcz239_2 := bc BK460 2 (.int .i64 0); have hfz239_0 := blk_frozen BK460.out 0; have hfz239_1 := blk_frozen BK460.out 1; have hfz239_2 := blk_frozen BK460.out 2; have hcz240_0 := bc BK354 0 (.int .i64 a10_0); have hcz240_1 := bc BK354 1 (.bool a10_1); have hcz240_2 := bc BK354 2 (.int .i64 a10_2); have hfz240_0 := blk_frozen BK354.out 0; have hfz240_1 := blk_frozen BK354.out 1; have hfz240_2 := blk_frozen BK354.out 2)); try go_wp2_with (first | (go_at_call 27; (with_reducible refine (impl_ParseSignal.calls t420 t456 t457 t458 true _ ?side1 A221.out).mono ?_); (case side1 => exact Dr.mm HMM); rintro e w236 ⟨rfl, hb⟩; replace BK354 := nk BK354 hb; replace BK428 := nk BK428 hb; replace HB := bs hb; (try clear hb)) | ((with_reducible refine gate_dst (N := 81) rfl ?_); (try (refine gate_guard (by rfl) ?_; dsimp only)); refine bx 81 25 #[.int .i64 0, .bool false, .int .i64 0] ?_; intro gb460 hg w237 hbox hb; have BK460 := hbox; have GW460 := gs hg; have GE460 := gs hg; replace HB := bs hb; have NB354_460 := nl BK354 hg; have NB460_354 := ng BK354 hg; replace BK354 := nk BK354 hb; clear hb hbox hg; have hnb238 := NB460_354.out; have hnc238 := NB354_460.out; have hcz239_0 := bc BK460 0 (.int .i64 0); have hcz239_1 := bc BK460 1 (.bool false); have hcz239_2 := bc BK460 2 (.int .i64 0); have hfz239_0 := blk_frozen BK460.out 0; have hfz239_1 := blk_frozen BK460.out 1; have hfz239_2 := blk_frozen BK460.out 2; have hcz240_0 := bc BK354 0 (.int .i64 a10_0); have hcz240_1 := bc BK354 1 (.bool a10_1); have hcz240_2 := bc BK354 2 (.int .i64 a10_2); have hfz240_0 := blk_frozen BK354.out 0; have hfz240_1 := blk_frozen BK354.out 1; have hfz240_2 := blk_frozen BK354.out 2)))
                          go_ret
                          exact ⟨rs, bw⟩
                       ·replace c222 := Bool.eq_false_iff.mpr c222
                        subst c222
                        rw [if_neg (show ¬ (false = true) by decide)] at H
                        exact absurd (Option.some.inj H) (by rw [HRT.out]; decide)
                      ·replace c220 := Bool.eq_false_iff.mpr c220
                       subst c220
                       rw [if_neg (show ¬ (false = true) by decide)] at H
                       by_cases c241 : t427 = true
                       ·subst c241
                        rw [if_pos rfl] at H
                        replace H := Option.bind_eq_some_iff.mp H
                        obtain ⟨⟨t463, t464⟩, A2420, H⟩ := H
                        (try dsimp only at H)
                        have A242 := Aside0.mk A2420
                        clear A2420
                        by_cases c243 : t464 = true
                        ·subst c243
                         rw [if_pos rfl] at H
                         obtain rfl := Option.some.inj H
                         have hnb244 := NB428_354.out
                         have hnc244 := NB354_428.out
                         have hcz245_0 : wc.cell? ⟨gb428, 0, none⟩ = some (.int .i64 t424) := ec BK428
                         have hcz245_1 : wc.cell? ⟨gb428, 1, none⟩ = some (.bool t425) := ec BK428
                         have hcz245_2 : wc.cell? ⟨gb428, 2, none⟩ = some (.int .i64 t426) := ec BK428
                         have hfz245_0 := blk_frozen BK428.out 0
                         have hfz245_1 := blk_frozen BK428.out 1
                         have hfz245_2 := blk_frozen BK428.out 2
                         go_wp2_with (first | (go_at_call 25; (with_reducible refine (impl_SignalText.calls t424 t425 t426 t463 true _ A242.out).mono ?_); rintro e w246 ⟨rfl, hb⟩; replace HB := bs hb; (try clear hb)))
                         repeat (go_quiet (first | (go_at_call 25; (with_reducible refine (impl_SignalText.calls t424 t425 t426 t463 true _ A242.out).mono ?_); rintro e w246 ⟨rfl, hb⟩; replace HB := bs hb; (try clear hb))); try go_wp2_with (first | (go_at_call 25; (with_reducible refine (impl_SignalText.calls t424 t425 t426 t463 true _ A242.out).mono ?_); rintro e w246 ⟨rfl, hb⟩; replace HB := bs hb; (try clear hb))))
                         go_ret
                         exact ⟨rs, bw⟩
                        ·replace c243 := Bool.eq_false_iff.mpr c243
                         subst c243
                         rw [if_neg (show ¬ (false = true) by decide)] at H
                         exact absurd (Option.some.inj H) (by rw [HRT.out]; decide)
                       ·replace c241 := Bool.eq_false_iff.mpr c241
                        subst c241
                        rw [if_neg (show ¬ (false = true) by decide)] at H
                        obtain rfl := Option.some.inj H
                        go_wp2
                        repeat (go_quiet (fail); try go_wp2)
                        go_ret
                        exact ⟨rs, bw⟩

end Go.Proofs.YtefihklpegcmpaaGreatDoor.PFnSignalsReachOfAll
