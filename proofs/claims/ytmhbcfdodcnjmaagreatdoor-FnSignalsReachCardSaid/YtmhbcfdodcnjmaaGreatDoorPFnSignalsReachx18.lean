import Derived.Test.YtmhbcfdodcnjmaaGreatDoorPFnSignalsReachx0
import Derived.Test.YtmhbcfdodcnjmaaGreatDoorPFnSignalsReachx1
import Derived.Test.YtmhbcfdodcnjmaaGreatDoorPFnSignalsReachx2
import Derived.Test.YtmhbcfdodcnjmaaGreatDoorPFnSignalsReachx3
import Derived.Test.YtmhbcfdodcnjmaaGreatDoorPFnSignalsReachx4
import Derived.Test.YtmhbcfdodcnjmaaGreatDoorPFnSignalsReachx5
import Derived.Test.YtmhbcfdodcnjmaaGreatDoorPFnSignalsReachx6
import Derived.Test.YtmhbcfdodcnjmaaGreatDoorPFnSignalsReachx7
import Derived.Test.YtmhbcfdodcnjmaaGreatDoorPFnSignalsReachx8
import Derived.Test.YtmhbcfdodcnjmaaGreatDoorPFnSignalsReachx9
import Derived.Test.YtmhbcfdodcnjmaaGreatDoorPFnSignalsReachx11
import Derived.Test.YtmhbcfdodcnjmaaGreatDoorPFnSignalsReachx12
import Derived.Test.YtmhbcfdodcnjmaaGreatDoorPFnSignalsReachx13
import Derived.Test.YtmhbcfdodcnjmaaGreatDoorPFnSignalsReachx14
import Derived.Test.YtmhbcfdodcnjmaaGreatDoorPFnSignalsReachx15
import Derived.Test.YtmhbcfdodcnjmaaGreatDoorPFnSignalsReachx16
import Derived.Test.YtmhbcfdodcnjmaaGreatDoorPFnSignalsReachx17
-- Laid by xprint, a program of this session that runs over the kit's print.
namespace Go.Proofs.YtmhbcfdodcnjmaaGreatDoor.PFnSignalsReach
open Go.RowKit Go.Proofs.YtmhbcfdodcnjmaaGreatDoorW.PrintWords Go.Proofs.YtmhbcfdodcnjmaaGreatDoorW.PrintLast Go.Proofs.YtmhbcfdodcnjmaaGreatDoorW.PrintMore Go.Proofs.YtmhbcfdodcnjmaaGreatDoor.Sq
attribute [local go_sem] max2_int min2_int max_two min_two max_three min_three max_four min_four   -- for this text's walks alone
set_option linter.unusedVariables false
set_option linter.unusedSimpArgs false

attribute [local go_sem high] eqA36
/-! ### laws_FnSignalsReach: its contract -/
set_option maxHeartbeats 80000000 in
set_option maxRecDepth 100000 in
theorem laws_FnSignalsReach.calls (k : Nat) (A0 : Option Addr) (c0 : Nat) (l0 : List Int) (A1 : Option Addr) (c1 : Nat) (l1 : List Int) (r : Bool) (w : World) (hm : Dr.Tab w) (hr0 : Kd.C (Kd.int .u8) w A0 l0.length l0) (hc0 : l0.length ≤ c0) (hr1 : Kd.C (Kd.int .u8) w A1 l1.length l1) (hc1 : l1.length ≤ c1) (hrt : r = true) (h : laws_FnSignalsReach.f k l0 l1 = some r) :
  Calls Tryz.prog 3 #[.slice A0 l0.length c0, .slice A1 l1.length c1] w fun e w' => e = .returned (.bool r) ∧ Below w.heap.size w w' := by
 have hu36 := Tryz.underlying36
 have HR0 := Aside0.mk hr0
 have HC0 := Aside0.mk hc0
 clear hr0 hc0
 have HR1 := Aside0.mk hr1
 have HC1 := Aside0.mk hc1
 clear hr1 hc1
 have HB := Aside0.mk (Below.refl w.heap.size w)
 have HRT := Aside0.mk hrt
 clear hrt
 have HMM := Aside0.mk hm
 clear hm
 unfold laws_FnSignalsReach.f at h
 have H := h
 clear h
 replace H := Option.bind_eq_some_iff.mp H
 obtain ⟨t564, A30, H⟩ := H
 (try dsimp only at H)
 have A3 := Aside0.mk A30
 clear A30
 by_cases c4 : t564 = true
 ·subst c4
  rw [if_pos rfl] at H
  obtain rfl := Option.some.inj H
  go_enter Tryz.func3, Tryz.ntmps3
  iterate 4 ((try go_wp2_with (first | (go_at_call 4; (with_reducible refine (laws_big.calls _ _ l0 _ _ l1 true _ ?side1 ?side2 ?side3 ?side4 A3.out).mono ?_); (case side1 => exact cr HR0); (case side2 => exact HC0.out); (case side3 => exact cr HR1); (case side4 => exact HC1.out); rintro e w' ⟨rfl, ⟨nd, rfl⟩⟩; (try exact zz)))); (try go_quiet (first | (go_at_call 4; (with_reducible refine (laws_big.calls _ _ l0 _ _ l1 true _ ?side1 ?side2 ?side3 ?side4 A3.out).mono ?_); (case side1 => exact cr HR0); (case side2 => exact HC0.out); (case side3 => exact cr HR1); (case side4 => exact HC1.out); rintro e w' ⟨rfl, ⟨nd, rfl⟩⟩; (try exact zz)))))
  go_ret
  exact ⟨rs, bw⟩
 ·replace c4 := Bool.eq_false_iff.mpr c4
  subst c4
  rw [if_neg (show ¬ (false = true) by decide)] at H
  replace H := Option.bind_eq_some_iff.mp H
  obtain ⟨⟨t565, t566, t567⟩, A50, H⟩ := H
  (try dsimp only at H)
  have A5 := Aside0.mk A50
  clear A50
  replace H := Option.bind_eq_some_iff.mp H
  obtain ⟨⟨t570, t571⟩, A60, H⟩ := H
  (try dsimp only at H)
  have A6 := Aside0.mk A60
  clear A60
  replace H := Option.bind_eq_some_iff.mp H
  obtain ⟨⟨t574, t575⟩, A70, H⟩ := H
  (try dsimp only at H)
  have A7 := Aside0.mk A70
  clear A70
  replace H := Option.bind_eq_some_iff.mp H
  obtain ⟨⟨t578, t579⟩, A80, H⟩ := H
  (try dsimp only at H)
  have A8 := Aside0.mk A80
  clear A80
  replace H := Option.bind_eq_some_iff.mp H
  obtain ⟨⟨t580, t581⟩, A90, H⟩ := H
  (try dsimp only at H)
  have A9 := Aside0.mk A90
  clear A90
  have HC10 := Aside0.mk H
  clear H
  go_enter Tryz.func3, Tryz.ntmps3
  iterate 16 ((try go_upto_region 8 with (first | (go_at_call 4; (with_reducible refine (laws_big.calls _ _ l0 _ _ l1 false _ ?side1 ?side2 ?side3 ?side4 A3.out).mono ?_); (case side1 => exact cr HR0); (case side2 => exact HC0.out); (case side3 => exact cr HR1); (case side4 => exact HC1.out); rintro e w' ⟨rfl, ⟨nd, rfl⟩⟩; (try exact zz)) | (go_at_call 5; (with_reducible refine (spec_DrawHeardBy.calls k _ _ l0 t565 t566 t567 _ ?side1 ?side2 A5.out).mono ?_); (case side1 => exact cr HR0); (case side2 => exact HC0.out); rintro e w11 ⟨v568, rfl, ho0, hb⟩; have HO569 := Aside0.mk (Kd.R_lower ho0 (below_size bw)); replace HB := bs hb; (try clear hb); (try clear ho0); obtain ⟨Ao12, co12, eo12⟩ := Kd.R_slice HO569.out; subst eo12) | (go_at_call 6; (with_reducible refine (impl_HeardBy.calls k t565 _ _ t566 t567 t570 t571 _ ?side1 ?side2 A6.out).mono ?_); (case side1 => exact rr HO569); (case side2 => exact rn HO569); rintro e w13 ⟨v572, rfl, ho0, hb⟩; replace HO569 := rl HO569 hb; have HO573 := Aside0.mk (Kd.R_lower ho0 (below_size bw)); replace HB := bs hb; (try clear hb); (try clear ho0)) | (go_at_call 7; (with_reducible refine (spec_HeardBy.calls k t565 _ _ t566 t567 t574 t575 _ ?side1 ?side2 A7.out).mono ?_); (case side1 => exact rr HO569); (case side2 => exact rn HO569); rintro e w14 ⟨v576, rfl, ho0, hb⟩; replace HO569 := rl HO569 hb; have HO577 := Aside0.mk (Kd.R_lower (Kd.R_new' ho0 (Kd.R_lt (pr HO573))) (below_size bw)); replace HO573 := re HO573 ho0 hb; replace HB := bs hb; (try clear hb); (try clear ho0)) | (go_at_call 8; (with_reducible refine (impl_TimeAllHear.calls k t565 _ _ t566 t578 t579 _ ?side1 ?side2 A8.out).mono ?_); (case side1 => exact rr HO569); (case side2 => exact rn HO569); rintro e w15 ⟨rfl, hb⟩; replace HO569 := rl HO569 hb; replace HO573 := rl HO573 hb; replace HO577 := rl HO577 hb; replace HB := bs hb; (try clear hb)) | (go_at_call 9; (with_reducible refine (spec_TimeAllHear.calls k t565 _ _ t566 t580 t581 _ ?side1 ?side2 A9.out).mono ?_); (case side1 => exact rr HO569); (case side2 => exact rn HO569); rintro e w16 ⟨rfl, hb⟩; replace HO569 := rl HO569 hb; replace HO573 := rl HO573 hb; replace HO577 := rl HO577 hb; replace HB := bs hb; (try clear hb)))); (try go_quiet (first | (go_at_call 4; (with_reducible refine (laws_big.calls _ _ l0 _ _ l1 false _ ?side1 ?side2 ?side3 ?side4 A3.out).mono ?_); (case side1 => exact cr HR0); (case side2 => exact HC0.out); (case side3 => exact cr HR1); (case side4 => exact HC1.out); rintro e w' ⟨rfl, ⟨nd, rfl⟩⟩; (try exact zz)))))
  (try simp only [Act.put, List.setIfInBounds_toArray, List.set_cons_zero, List.set_cons_succ])
  go_cut [79, 92, 98, 99, 100, 101, 102, 103, 104, 105, 106, 107, 108, 109, 110, 111, 155] from 9999 (fun _ _ _ _ _ _ _ _ _ _ _ _ _ _ _ _ v155 wc => ∃ (kq : Nat) (x155_9 : Bool), v155 = .bool x155_9 ∧ Aside0 (laws_FnSignalsReach.j0 kq l1 t565 t566 t567 t570 t571 t578 x155_9 = some r) ∧ Aside0 (kq ≤ k) ∧ Aside0 (Kd.R k36 36 wc w.heap.size (fun _ => True) (.slice Ao12 t566.length co12) t566) ∧ Aside0 (Kd.R (Kd.int .i64) 3 wc w.heap.size (fun _ => True) v572 t570) ∧ Aside0 (Below w.heap.size w wc))
  case first => as_aux_lemma =>
   have H := HC10.out
   clear HC10
   by_cases c17 : (t571 != t575) = true
   ·rw [if_pos c17] at H
    exact absurd (Option.some.inj H) (by rw [HRT.out]; decide)
   ·rw [if_neg c17] at H
    have c17b0 : (t571 != t575) = false := by simpa using c17
    (try (have c17b1 : decide (t571 = t575) = true := by simpa using c17))
    (try (have c17b2 : (t571 == t575) = true := by simpa using c17))
    clear c17
    (first | rw [c17b0] | rw [@decide_eq_true _ _ (of_decide_eq_true c17b1)] | rw [@decide_eq_false _ _ (of_decide_eq_false c17b1)] | (simp only [i64_w, i32_w]; rw [c17b0]) | skip)
    replace H := Option.bind_eq_some_iff.mp H
    obtain ⟨t582, A180, H⟩ := H
    (try dsimp only at H)
    have A18 := Aside0.mk A180
    clear A180
    by_cases c19 : t582 = true
    ·subst c19
     rw [if_pos rfl] at H
     by_cases c20 : (t579 != t581) = true
     ·rw [if_pos c20] at H
      exact absurd (Option.some.inj H) (by rw [HRT.out]; decide)
     ·rw [if_neg c20] at H
      have c20b0 : (t579 != t581) = false := by simpa using c20
      (try (have c20b1 : decide (t579 = t581) = true := by simpa using c20))
      (try (have c20b2 : (t579 == t581) = true := by simpa using c20))
      clear c20
      by_cases c21 : t578 = t580
      ·rw [if_pos c21] at H
       have c21b0 : (t578 == t580) = true := beq_iff_eq.mpr c21
       have c21b1 : (t578 != t580) = false := bne_eq_false_iff_eq.mpr c21
       clear c21
       replace H := Option.bind_eq_some_iff.mp H
       obtain ⟨t583, A220, H⟩ := H
       (try dsimp only at H)
       have A22 := Aside0.mk A220
       clear A220
       replace H := Option.bind_eq_some_iff.mp H
       obtain ⟨t584, A230, H⟩ := H
       (try dsimp only at H)
       have A23 := Aside0.mk A230
       clear A230
       by_cases c24 : (t583 != t584) = true
       ·rw [if_pos c24] at H
        exact absurd (Option.some.inj H) (by rw [HRT.out]; decide)
       ·rw [if_neg c24] at H
        have c24b0 : (t583 != t584) = false := by simpa using c24
        (try (have c24b1 : decide (t583 = t584) = true := by simpa using c24))
        (try (have c24b2 : (t583 == t584) = true := by simpa using c24))
        clear c24
        by_cases c25 : t571 = true
        ·subst c25
         rw [if_pos rfl] at H
         by_cases c26 : t579 = true
         ·subst c26
          rw [if_pos rfl] at H
          replace H := Option.bind_eq_some_iff.mp H
          obtain ⟨t585, A270, H⟩ := H
          (try dsimp only at H)
          have A27 := Aside0.mk A270
          have e_ := Aside0.mk (Option.some.inj (A22.out.symm.trans A27.out))
          clear A270
          have H' := Aside0.mk H
          clear H
          obtain ⟨Ao28, co28, eo28⟩ := Kd.R_slice HO573.out
          subst eo28
          obtain ⟨Ao29, co29, eo29⟩ := Kd.R_slice HO577.out
          subst eo29
          iterate 4 ((try go_wp2_with (first | (go_at_call 10; (with_reducible refine (laws_vSame.calls k _ _ t570 _ _ t574 true _ ?side1 ?side2 ?side3 ?side4 A18.out).mono ?_); (case side1 => exact rr HO573); (case side2 => exact rn HO573); (case side3 => exact rr HO577); (case side4 => exact rn HO577); rintro e w' ⟨rfl, ⟨nd, rfl⟩⟩; (try exact zz)) | (go_at_call 11; (with_reducible refine (impl_AreSignals.calls k t565 _ _ t566 t583 _ ?side1 ?side2 A22.out).mono ?_); (case side1 => exact rr HO569); (case side2 => exact rn HO569); rintro e w30 ⟨rfl, hb⟩; replace HO569 := rl HO569 hb; replace HO573 := rl HO573 hb; replace HO577 := rl HO577 hb; replace HB := bs hb; (try clear hb)) | (go_at_call 12; (with_reducible refine (spec_AreSignals.calls k t565 _ _ t566 t584 _ ?side1 ?side2 A23.out).mono ?_); (case side1 => exact rr HO569); (case side2 => exact rn HO569); rintro e w31 ⟨rfl, hb⟩; replace HO569 := rl HO569 hb; replace HO573 := rl HO573 hb; replace HO577 := rl HO577 hb; replace HB := bs hb; (try clear hb)) | (go_at_call 11; (with_reducible refine (impl_AreSignals.calls k t565 _ _ t566 t585 _ ?side1 ?side2 A27.out).mono ?_); (case side1 => exact rr HO569); (case side2 => exact rn HO569); rintro e w32 ⟨rfl, hb⟩; replace HO569 := rl HO569 hb; replace HO573 := rl HO573 hb; replace HO577 := rl HO577 hb; replace HB := bs hb; (try clear hb)))); (try go_quiet (first | (go_at_call 10; (with_reducible refine (laws_vSame.calls k _ _ t570 _ _ t574 true _ ?side1 ?side2 ?side3 ?side4 A18.out).mono ?_); (case side1 => exact rr HO573); (case side2 => exact rn HO573); (case side3 => exact rr HO577); (case side4 => exact rn HO577); rintro e w' ⟨rfl, ⟨nd, rfl⟩⟩; (try exact zz)))))
          go_meet
          case rel => exact ⟨_, (!t585), (by first | (rw [e_.out]) | (simp [e_.out]; done) | exact (rs)), H', ⟨by first | omega | exact Nat.le_refl _⟩, ⟨pr HO569⟩, ⟨by (with_reducible repeat (first | apply Kd.R_alloc | apply Kd.R_drewN | apply Kd.R_drew)); exact Kd.R_mono HO573.out (fun _ hk => trivial)⟩, ⟨bw⟩⟩
         ·replace c26 := Bool.eq_false_iff.mpr c26
          subst c26
          rw [if_neg (show ¬ (false = true) by decide)] at H
          exact absurd (Option.some.inj H) (by rw [HRT.out]; decide)
        ·replace c25 := Bool.eq_false_iff.mpr c25
         subst c25
         rw [if_neg (show ¬ (false = true) by decide)] at H
         by_cases c33 : t579 = true
         ·subst c33
          rw [if_pos rfl] at H
          replace H := Option.bind_eq_some_iff.mp H
          obtain ⟨t586, A340, H⟩ := H
          (try dsimp only at H)
          have A34 := Aside0.mk A340
          have e_ := Aside0.mk (Option.some.inj (A22.out.symm.trans A34.out))
          clear A340
          have H' := Aside0.mk H
          clear H
          obtain ⟨Ao35, co35, eo35⟩ := Kd.R_slice HO573.out
          subst eo35
          obtain ⟨Ao36, co36, eo36⟩ := Kd.R_slice HO577.out
          subst eo36
          iterate 4 ((try go_wp2_with (first | (go_at_call 10; (with_reducible refine (laws_vSame.calls k _ _ t570 _ _ t574 true _ ?side1 ?side2 ?side3 ?side4 A18.out).mono ?_); (case side1 => exact rr HO573); (case side2 => exact rn HO573); (case side3 => exact rr HO577); (case side4 => exact rn HO577); rintro e w' ⟨rfl, ⟨nd, rfl⟩⟩; (try exact zz)) | (go_at_call 11; (with_reducible refine (impl_AreSignals.calls k t565 _ _ t566 t583 _ ?side1 ?side2 A22.out).mono ?_); (case side1 => exact rr HO569); (case side2 => exact rn HO569); rintro e w37 ⟨rfl, hb⟩; replace HO569 := rl HO569 hb; replace HO573 := rl HO573 hb; replace HO577 := rl HO577 hb; replace HB := bs hb; (try clear hb)) | (go_at_call 12; (with_reducible refine (spec_AreSignals.calls k t565 _ _ t566 t584 _ ?side1 ?side2 A23.out).mono ?_); (case side1 => exact rr HO569); (case side2 => exact rn HO569); rintro e w38 ⟨rfl, hb⟩; replace HO569 := rl HO569 hb; replace HO573 := rl HO573 hb; replace HO577 := rl HO577 hb; replace HB := bs hb; (try clear hb)) | (go_at_call 11; (with_reducible refine (impl_AreSignals.calls k t565 _ _ t566 t586 _ ?side1 ?side2 A34.out).mono ?_); (case side1 => exact rr HO569); (case side2 => exact rn HO569); rintro e w39 ⟨rfl, hb⟩; replace HO569 := rl HO569 hb; replace HO573 := rl HO573 hb; replace HO577 := rl HO577 hb; replace HB := bs hb; (try clear hb)))); (try go_quiet (first | (go_at_call 10; (with_reducible refine (laws_vSame.calls k _ _ t570 _ _ t574 true _ ?side1 ?side2 ?side3 ?side4 A18.out).mono ?_); (case side1 => exact rr HO573); (case side2 => exact rn HO573); (case side3 => exact rr HO577); (case side4 => exact rn HO577); rintro e w' ⟨rfl, ⟨nd, rfl⟩⟩; (try exact zz)))))
          go_meet
          case rel => exact ⟨_, (!t586), (by first | (rw [e_.out]) | (simp [e_.out]; done) | exact (rs)), H', ⟨by first | omega | exact Nat.le_refl _⟩, ⟨pr HO569⟩, ⟨by (with_reducible repeat (first | apply Kd.R_alloc | apply Kd.R_drewN | apply Kd.R_drew)); exact Kd.R_mono HO573.out (fun _ hk => trivial)⟩, ⟨bw⟩⟩
         ·replace c33 := Bool.eq_false_iff.mpr c33
          subst c33
          rw [if_neg (show ¬ (false = true) by decide)] at H
          have H' := Aside0.mk H
          clear H
          obtain ⟨Ao40, co40, eo40⟩ := Kd.R_slice HO573.out
          subst eo40
          obtain ⟨Ao41, co41, eo41⟩ := Kd.R_slice HO577.out
          subst eo41
          iterate 4 ((try go_wp2_with (first | (go_at_call 10; (with_reducible refine (laws_vSame.calls k _ _ t570 _ _ t574 true _ ?side1 ?side2 ?side3 ?side4 A18.out).mono ?_); (case side1 => exact rr HO573); (case side2 => exact rn HO573); (case side3 => exact rr HO577); (case side4 => exact rn HO577); rintro e w' ⟨rfl, ⟨nd, rfl⟩⟩; (try exact zz)) | (go_at_call 11; (with_reducible refine (impl_AreSignals.calls k t565 _ _ t566 t583 _ ?side1 ?side2 A22.out).mono ?_); (case side1 => exact rr HO569); (case side2 => exact rn HO569); rintro e w42 ⟨rfl, hb⟩; replace HO569 := rl HO569 hb; replace HO573 := rl HO573 hb; replace HO577 := rl HO577 hb; replace HB := bs hb; (try clear hb)) | (go_at_call 12; (with_reducible refine (spec_AreSignals.calls k t565 _ _ t566 t584 _ ?side1 ?side2 A23.out).mono ?_); (case side1 => exact rr HO569); (case side2 => exact rn HO569); rintro e w43 ⟨rfl, hb⟩; replace HO569 := rl HO569 hb; replace HO573 := rl HO573 hb; replace HO577 := rl HO577 hb; replace HB := bs hb; (try clear hb)))); (try go_quiet (first | (go_at_call 10; (with_reducible refine (laws_vSame.calls k _ _ t570 _ _ t574 true _ ?side1 ?side2 ?side3 ?side4 A18.out).mono ?_); (case side1 => exact rr HO573); (case side2 => exact rn HO573); (case side3 => exact rr HO577); (case side4 => exact rn HO577); rintro e w' ⟨rfl, ⟨nd, rfl⟩⟩; (try exact zz)))))
          go_meet
          case rel => exact ⟨_, (false), (rs), H', ⟨by first | omega | exact Nat.le_refl _⟩, ⟨pr HO569⟩, ⟨by (with_reducible repeat (first | apply Kd.R_alloc | apply Kd.R_drewN | apply Kd.R_drew)); exact Kd.R_mono HO573.out (fun _ hk => trivial)⟩, ⟨bw⟩⟩
      ·rw [if_neg c21] at H
       exact absurd (Option.some.inj H) (by rw [HRT.out]; decide)
    ·replace c19 := Bool.eq_false_iff.mpr c19
     subst c19
     rw [if_neg (show ¬ (false = true) by decide)] at H
     exact absurd (Option.some.inj H) (by rw [HRT.out]; decide)
  case rest =>
   clear HC10
   repeat (first|clear c1|clear c2|clear p2|clear c3|clear c4|clear c17|clear c17b0|clear c17b1|clear c17b2|clear c19|clear c20|clear c20b0|clear c20b1|clear c20b2|clear c21|clear c21b0|clear c21b1|clear c24|clear c24b0|clear c24b1|clear c24b2|clear c25|clear c26|clear c33)
   obtain ⟨kq, x155_9, rfl, HA, HJ9, HO_6, HO_8, HB⟩ := hcut
   cases kq with
   | zero => exact absurd HA.out (by simp [laws_FnSignalsReach.j0])
   | succ kj9 =>
    have H := HA.out
    clear HA
    simp only [laws_FnSignalsReach.j0] at H
    by_cases c44 : x155_9 = true
    ·subst c44
     rw [if_pos rfl] at H
     exact absurd (Option.some.inj H) (by rw [HRT.out]; decide)
    ·replace c44 := Bool.eq_false_iff.mpr c44
     subst c44
     rw [if_neg (show ¬ (false = true) by decide)] at H
     have HC45 := Aside0.mk H
     clear H
     go_upto_if 156 with (fail)
     repeat (go_quiet (fail); go_upto_if 156 with (fail))
     go_cut [99, 105, 111, 112, 113, 114, 115, 118, 119, 120, 121, 122, 123, 124, 125, 126, 129, 130, 131, 134, 137, 138, 139, 140, 141, 142, 143, 144, 145, 146, 147, 148, 149, 150, 151, 152, 153, 154, 155, 156] from 9999 (fun _ _ _ _ _ _ _ _ _ _ _ _ _ _ _ _ _ _ _ _ _ _ _ _ _ _ _ _ _ _ _ _ _ _ _ _ _ _ _ _ wc => ∃ (kq : Nat), Aside0 (laws_FnSignalsReach.j3 kq l1 = some r) ∧ Aside0 (kq ≤ kj9) ∧ Aside0 (Below w.heap.size w wc))
     case first => as_aux_lemma =>
      have H := HC45.out
      clear HC45
      by_cases c46 : t571 = true
      ·subst c46
       rw [if_pos rfl] at H
       replace H := Option.bind_eq_some_iff.mp H
       obtain ⟨t587, A470, H⟩ := H
       (try dsimp only at H)
       have A47 := Aside0.mk A470
       clear A470
       by_cases c48 : t587 = true
       ·subst c48
        rw [if_pos rfl] at H
        by_cases c49 : (((t570.length : Int) == t565) != (decide (t567 ≥ t578))) = true
        ·rw [if_pos c49] at H
         exact absurd (Option.some.inj H) (by rw [HRT.out]; decide)
        ·rw [if_neg c49] at H
         have c49b0 : (((t570.length : Int) == t565) != (decide (t567 ≥ t578))) = false := by simpa using c49
         (try (have c49b1 : decide (((t570.length : Int) == t565) = (decide (t567 ≥ t578))) = true := by simpa using c49))
         (try (have c49b2 : (((t570.length : Int) == t565) == (decide (t567 ≥ t578))) = true := by simpa using c49))
         clear c49
         (first | rw [c49b0] | rw [@decide_eq_true _ _ (of_decide_eq_true c49b1)] | rw [@decide_eq_false _ _ (of_decide_eq_false c49b1)] | (simp only [i64_w, i32_w]; rw [c49b0]) | skip)
         have H' := Aside0.mk H
         clear H
         obtain ⟨Ao50, co50, eo50⟩ := Kd.R_slice HO_8.out
         subst eo50
         iterate 4 ((try go_wp2_with (first | (go_at_call 13; (with_reducible refine (laws_vRises.calls kj9 _ _ t570 true _ ?side1 ?side2 A47.out).mono ?_); (case side1 => exact rr HO_8); (case side2 => exact rn HO_8); rintro e w' ⟨rfl, ⟨nd, rfl⟩⟩; (try exact zz)))); (try go_quiet (first | (go_at_call 13; (with_reducible refine (laws_vRises.calls kj9 _ _ t570 true _ ?side1 ?side2 A47.out).mono ?_); (case side1 => exact rr HO_8); (case side2 => exact rn HO_8); rintro e w' ⟨rfl, ⟨nd, rfl⟩⟩; (try exact zz)))))
         go_loopg [172] kj9 (fun kq v172 w' => ∃ (x172_2 : Int), v172 = .int .i64 x172_2 ∧ Aside0 (laws_FnSignalsReach.l0 kq l1 t565 t566 t567 t570 t566 (t566.length : Int) x172_2 = some r) ∧ Aside0 (kq ≤ kj9) ∧ Aside0 (Kd.R k36 36 w' w.heap.size (fun _ => True) (.slice Ao12 t566.length co12) t566) ∧ Aside0 (Kd.R (Kd.int .i64) 3 w' w.heap.size (fun _ => True) (.slice Ao50 t570.length co50) t570) ∧ Aside0 (Kd.R k36 36 w' w.heap.size (fun _ => True) (.slice Ao12 t566.length co12) t566) ∧ Aside0 (Below w.heap.size w w'))
         case atStart => exact ⟨(0), (rs), H', ⟨Nat.le_refl _⟩, ⟨pr HO_6⟩, ⟨pr HO_8⟩, ⟨pr HO_6⟩, ⟨bw⟩⟩
         case round =>
          clear H'
          repeat (first|clear c1|clear c2|clear p2|clear c3|clear c4|clear c17|clear c17b0|clear c17b1|clear c17b2|clear c19|clear c20|clear c20b0|clear c20b1|clear c20b2|clear c21|clear c21b0|clear c21b1|clear c24|clear c24b0|clear c24b1|clear c24b2|clear c25|clear c26|clear c33|clear c44|clear c46|clear c48|clear c49|clear c49b0|clear c49b1|clear c49b2)
          obtain ⟨x172_2, rfl, HA, HK2, HO_6, HO_8, HO_170, HB⟩ := hrel
          cases gk with
          | zero => exact absurd HA.out (by simp [laws_FnSignalsReach.l0])
          | succ k2 =>
           have H := HA.out
           clear HA
           simp only [laws_FnSignalsReach.l0] at H
           by_cases c51 : x172_2 < (t566.length : Int)
           ·rw [if_pos c51] at H
            have c51b0 : decide (x172_2 < (t566.length : Int)) = true := decide_eq_true c51
            clear c51
            by_cases c52 : 0 ≤ x172_2
            ·rw [if_pos c52] at H
             have c52b0 : decide (0 ≤ x172_2) = true := decide_eq_true c52
             clear c52
             by_cases c53 : x172_2 < (t566.length : Int)
             ·rw [if_pos c53] at H
              have c53b0 : decide (x172_2 < (t566.length : Int)) = true := decide_eq_true c53
              clear c53
              replace H := Option.bind_eq_some_iff.mp H
              obtain ⟨t590, A540, H⟩ := H
              (try dsimp only at H)
              have A54 := Aside0.mk A540
              clear A540
              by_cases c55 : t590 = true
              ·subst c55
               rw [if_pos rfl] at H
               have H' := Aside0.mk H
               clear H
               have p588 : 0 ≤ (x172_2 : Int) := of_decide_eq_true asm
               have q588 : x172_2 < (t566.length : Int) := of_decide_eq_true asm
               obtain ⟨ad588, e588, hx588_0, hx588_1, hx588_2⟩ := at_T36 (Kd.R_reads' HO_170.out).2.2 x172_2 p588 q588
               cases e588
               replace p588 := eq_true p588
               replace q588 := eq_true q588
               iterate 4 ((try go_wp2_with (first | ((with_reducible refine gate_dst (N := 17) rfl ?_); (try (refine gate_guard (by rfl) ?_; dsimp only)); refine bx 17 36 #[.int .i64 0, .bool false, .int .i64 0] ?_; intro gb589 hg w56 hbox hb; replace HO_6 := Aside0.mk (Kd.R_below (Kd.R_elderB (pr HO_6) gb589 (Nat.le_of_eq hg.symm)) hb); replace HO_8 := rl HO_8 hb; replace HO_170 := Aside0.mk (Kd.R_below (Kd.R_elderB (pr HO_170) gb589 (Nat.le_of_eq hg.symm)) hb); have BK589 := hbox; have GW589 := gs hg; have GE589 := gs hg; replace HB := bs hb; clear hb hbox hg; have hcz57_0 := bc BK589 0 (.int .i64 0); have hcz57_1 := bc BK589 1 (.bool false); have hcz57_2 := bc BK589 2 (.int .i64 0); have hfz57_0 := blk_frozen BK589.out 0; have hfz57_1 := blk_frozen BK589.out 1; have hfz57_2 := blk_frozen BK589.out 2) | (go_at_call 14; (with_reducible refine (laws_vHas.calls k2 _ _ t570 ((rd_T36 t566 x172_2).f0) true _ ?side1 ?side2 A54.out).mono ?_); (case side1 => refine (Kd.R_reads' (e := 3) (base := w.heap.size) (ok := fun k_ => True) (n := t570.length) (c := co50) ?_).2.2; exact (qf3 HO_8)); (case side2 => exact rn HO_8); rintro e w' ⟨rfl, ⟨nd, rfl⟩⟩; (try exact zz)))); (try go_quiet (first | (go_at_call 14; (with_reducible refine (laws_vHas.calls k2 _ _ t570 ((rd_T36 t566 x172_2).f0) true _ ?side1 ?side2 A54.out).mono ?_); (case side1 => refine (Kd.R_reads' (e := 3) (base := w.heap.size) (ok := fun k_ => True) (n := t570.length) (c := co50) ?_).2.2; exact (qf3 HO_8)); (case side2 => exact rn HO_8); rintro e w' ⟨rfl, ⟨nd, rfl⟩⟩; (try exact zz)))))
               go_roundg k2
               case measure => have := HJ9.out; have := HK2.out; omega
               case rel => exact ⟨(wrap64 (x172_2 + 1)), (rs), H', ⟨by have := HJ9.out; have := HK2.out; omega⟩, ⟨by (with_reducible repeat (first | apply Kd.R_alloc | apply Kd.R_drewN | apply Kd.R_drew)); exact Kd.R_mono (Kd.R_far (p := ⟨gb589, 2, none⟩) (Kd.R_far (p := ⟨gb589, 1, none⟩) (Kd.R_far (p := ⟨gb589, 0, none⟩) (Kd.R_mono HO_6.out (fun k_ hk => (⟨hk, hk.2⟩ : _ ∧ k_ ≠ gb589))) (fun _ hk => hk.2) (.int .i64 ((rd_T36 t566 x172_2).f0))) (fun _ hk => hk.2) (.bool ((rd_T36 t566 x172_2).f1))) (fun _ hk => hk.2) (.int .i64 ((rd_T36 t566 x172_2).f2))) (fun _ hk => trivial)⟩, ⟨by (with_reducible repeat (first | apply Kd.R_alloc | apply Kd.R_drewN | apply Kd.R_drew)); exact Kd.R_mono (Kd.R_far (p := ⟨gb589, 2, none⟩) (Kd.R_far (p := ⟨gb589, 1, none⟩) (Kd.R_far (p := ⟨gb589, 0, none⟩) (Kd.R_types HO_8.out BK589.out (by decide)) (fun _ hk => hk.2) (.int .i64 ((rd_T36 t566 x172_2).f0))) (fun _ hk => hk.2) (.bool ((rd_T36 t566 x172_2).f1))) (fun _ hk => hk.2) (.int .i64 ((rd_T36 t566 x172_2).f2))) (fun _ hk => trivial)⟩, ⟨by (with_reducible repeat (first | apply Kd.R_alloc | apply Kd.R_drewN | apply Kd.R_drew)); exact Kd.R_mono (Kd.R_far (p := ⟨gb589, 2, none⟩) (Kd.R_far (p := ⟨gb589, 1, none⟩) (Kd.R_far (p := ⟨gb589, 0, none⟩) (Kd.R_mono HO_170.out (fun k_ hk => (⟨hk, hk.2⟩ : _ ∧ k_ ≠ gb589))) (fun _ hk => hk.2) (.int .i64 ((rd_T36 t566 x172_2).f0))) (fun _ hk => hk.2) (.bool ((rd_T36 t566 x172_2).f1))) (fun _ hk => hk.2) (.int .i64 ((rd_T36 t566 x172_2).f2))) (fun _ hk => trivial)⟩, ⟨bw⟩⟩
              ·replace c55 := Bool.eq_false_iff.mpr c55
               subst c55
               rw [if_neg (show ¬ (false = true) by decide)] at H
               exact absurd (Option.some.inj H) (by rw [HRT.out]; decide)
             ·rw [if_neg c53] at H
              exact absurd H (by simp)
            ·rw [if_neg c52] at H
             exact absurd H (by simp)
           ·rw [if_neg c51] at H
            have c51b0 : decide (x172_2 < (t566.length : Int)) = false := decide_eq_false c51
            clear c51
            by_cases c58 : t567 > 0
            ·rw [if_pos c58] at H
             have c58b0 : decide (0 < t567) = true := decide_eq_true c58
             clear c58
             replace H := Option.bind_eq_some_iff.mp H
             obtain ⟨⟨t591, t592⟩, A590, H⟩ := H
             (try dsimp only at H)
             have A59 := Aside0.mk A590
             clear A590
             by_cases c60 : t592 = true
             ·subst c60
              rw [if_pos rfl] at H
              by_cases c61 : (t591.length : Int) > (t570.length : Int)
              ·rw [if_pos c61] at H
               exact absurd (Option.some.inj H) (by rw [HRT.out]; decide)
              ·rw [if_neg c61] at H
               have c61b0 : decide ((t570.length : Int) < (t591.length : Int)) = false := decide_eq_false c61
               have c61b1 : decide (t570.length < t591.length) = false := decide_eq_false (fun h => c61 (Int.ofNat_lt.mpr h))
               clear c61
               have H' := Aside0.mk H
               clear H
               iterate 4 ((try go_wp2_with (first | (go_at_call 6; (with_reducible refine (impl_HeardBy.calls k2 t565 _ _ t566 (wrap64 (t567 - 1)) t591 true _ ?side1 ?side2 A59.out).mono ?_); (case side1 => exact rr HO_6); (case side2 => exact rn HO_6); rintro e w62 ⟨v593, rfl, ho0, hb⟩; replace HO_6 := rl HO_6 hb; replace HO_170 := rl HO_170 hb; have HO594 := Aside0.mk (Kd.R_lower (Kd.R_new' ho0 (Kd.R_lt (pr HO_8))) (below_size bw)); replace HO_8 := re HO_8 ho0 hb; replace HB := bs hb; (try clear hb); (try clear ho0); obtain ⟨Ao63, co63, eo63⟩ := Kd.R_slice HO594.out; subst eo63))); (try go_quiet (fail)))
               go_loopg [203] k2 (fun kq v203 w' => ∃ (x203_3 : Int), v203 = .int .i64 x203_3 ∧ Aside0 (laws_FnSignalsReach.l1 kq l1 t570 t591 (t591.length : Int) x203_3 = some r) ∧ Aside0 (kq ≤ k2) ∧ Aside0 (Kd.R (Kd.int .i64) 3 w' w.heap.size (fun k_ => some k_ ≠ ((.slice Ao63 t591.length co63) : Value).ownBlock) (.slice Ao50 t570.length co50) t570) ∧ Aside0 (Kd.R (Kd.int .i64) 3 w' w.heap.size (fun k_ => some k_ ≠ ((.slice Ao50 t570.length co50) : Value).ownBlock) (.slice Ao63 t591.length co63) t591) ∧ Aside0 (Below w.heap.size w w'))
               case atStart => exact ⟨(0), (rs), H', ⟨Nat.le_refl _⟩, ⟨by (with_reducible repeat (first | apply Kd.R_alloc | apply Kd.R_drewN | apply Kd.R_drew)); exact Kd.R_mono HO_8.out (fun _ hk => hk.2)⟩, ⟨by (with_reducible repeat (first | apply Kd.R_alloc | apply Kd.R_drewN | apply Kd.R_drew)); exact Kd.R_mono HO594.out (fun _ hk => hk.2)⟩, ⟨bw⟩⟩
               case round =>
                clear H'
                repeat (first|clear c1|clear c2|clear p2|clear c3|clear c4|clear c5|clear p5|clear q5|clear hx5|clear c6|clear p6|clear c17|clear c17b0|clear c17b1|clear c17b2|clear c19|clear c20|clear c20b0|clear c20b1|clear c20b2|clear c21|clear c21b0|clear c21b1|clear c24|clear c24b0|clear c24b1|clear c24b2|clear c25|clear c26|clear c33|clear c44|clear c46|clear c48|clear c49|clear c49b0|clear c49b1|clear c49b2|clear c51|clear c51b0|clear c52|clear c52b0|clear c53|clear c53b0|clear c55|clear c58|clear c58b0|clear p58|clear q58|clear hx58|clear c60|clear c61|clear c61b0|clear c61b1|clear hcz57_0|clear hcz57_1|clear hcz57_2|clear hfz57_0|clear hfz57_1|clear hfz57_2|clear hx588_0|clear hx588_1|clear hx588_2|clear p588|clear q588)
                obtain ⟨x203_3, rfl, HA, HK3, HO_8, HO_201, HB⟩ := hrel
                cases gk with
                | zero => exact absurd HA.out (by simp [laws_FnSignalsReach.l1])
                | succ k3 =>
                 have H := HA.out
                 clear HA
                 simp only [laws_FnSignalsReach.l1] at H
                 by_cases c64 : x203_3 < (t591.length : Int)
                 ·rw [if_pos c64] at H
                  have c64b0 : decide (x203_3 < (t591.length : Int)) = true := decide_eq_true c64
                  clear c64
                  by_cases c65 : 0 ≤ x203_3
                  ·rw [if_pos c65] at H
                   have c65b0 : decide (0 ≤ x203_3) = true := decide_eq_true c65
                   clear c65
                   by_cases c66 : x203_3 < (t591.length : Int)
                   ·rw [if_pos c66] at H
                    have c66b0 : decide (x203_3 < (t591.length : Int)) = true := decide_eq_true c66
                    clear c66
                    replace H := Option.bind_eq_some_iff.mp H
                    obtain ⟨t596, A670, H⟩ := H
                    (try dsimp only at H)
                    have A67 := Aside0.mk A670
                    clear A670
                    by_cases c68 : t596 = true
                    ·subst c68
                     rw [if_pos rfl] at H
                     have H' := Aside0.mk H
                     clear H
                     have p595 : 0 ≤ (x203_3 : Int) := of_decide_eq_true asm
                     have q595 : x203_3 < (t591.length : Int) := of_decide_eq_true asm
                     obtain ⟨ad595, e595, hx595_0⟩ := Kd.at_int (Kd.R_reads' HO_201.out).2.2 x203_3 p595 q595
                     cases e595
                     replace p595 := eq_true p595
                     replace q595 := eq_true q595
                     iterate 4 ((try go_wp2_with (first | (go_at_call 14; (with_reducible refine (laws_vHas.calls k3 _ _ t570 (rd t591 x203_3) true _ ?side1 ?side2 A67.out).mono ?_); (case side1 => exact rr HO_8); (case side2 => exact rn HO_8); rintro e w' ⟨rfl, ⟨nd, rfl⟩⟩; (try exact zz)))); (try go_quiet (first | (go_at_call 14; (with_reducible refine (laws_vHas.calls k3 _ _ t570 (rd t591 x203_3) true _ ?side1 ?side2 A67.out).mono ?_); (case side1 => exact rr HO_8); (case side2 => exact rn HO_8); rintro e w' ⟨rfl, ⟨nd, rfl⟩⟩; (try exact zz)))))
                     go_roundg k3
                     case measure => have := HJ9.out; have := HK2.out; have := HK3.out; omega
                     case rel => exact ⟨(wrap64 (x203_3 + 1)), (rs), H', ⟨by have := HJ9.out; have := HK2.out; have := HK3.out; omega⟩, ⟨pr HO_8⟩, ⟨pr HO_201⟩, ⟨bw⟩⟩
                    ·replace c68 := Bool.eq_false_iff.mpr c68
                     subst c68
                     rw [if_neg (show ¬ (false = true) by decide)] at H
                     exact absurd (Option.some.inj H) (by rw [HRT.out]; decide)
                   ·rw [if_neg c66] at H
                    exact absurd H (by simp)
                  ·rw [if_neg c65] at H
                   exact absurd H (by simp)
                 ·rw [if_neg c64] at H
                  have c64b0 : decide (x203_3 < (t591.length : Int)) = false := decide_eq_false c64
                  clear c64
                  have H' := Aside0.mk H
                  clear H
                  go_wp2
                  repeat (go_quiet (fail); try go_wp2)
                  go_meet
                  case rel => exact ⟨_, H', ⟨by have := HJ9.out; have := HK2.out; have := HK3.out; first | omega | exact Nat.le_refl _⟩, ⟨bw⟩⟩
             ·replace c60 := Bool.eq_false_iff.mpr c60
              subst c60
              rw [if_neg (show ¬ (false = true) by decide)] at H
              exact absurd (Option.some.inj H) (by rw [HRT.out]; decide)
            ·rw [if_neg c58] at H
             have c58b0 : decide (0 < t567) = false := decide_eq_false c58
             clear c58
             have H' := Aside0.mk H
             clear H
             go_wp2
             repeat (go_quiet (fail); try go_wp2)
             go_meet
             case rel => exact ⟨_, H', ⟨by have := HJ9.out; have := HK2.out; first | omega | exact Nat.le_refl _⟩, ⟨bw⟩⟩
       ·replace c48 := Bool.eq_false_iff.mpr c48
        subst c48
        rw [if_neg (show ¬ (false = true) by decide)] at H
        exact absurd (Option.some.inj H) (by rw [HRT.out]; decide)
      ·replace c46 := Bool.eq_false_iff.mpr c46
       subst c46
       rw [if_neg (show ¬ (false = true) by decide)] at H
       have H' := Aside0.mk H
       clear H
       go_wp2
       repeat (go_quiet (fail); try go_wp2)
       go_meet
       case rel => exact ⟨_, H', ⟨by have := HJ9.out; first | omega | exact Nat.le_refl _⟩, ⟨bw⟩⟩
     case rest =>
      clear HC45
      repeat (first|clear c1|clear c2|clear p2|clear c3|clear c4|clear c5|clear p5|clear q5|clear hx5|clear c6|clear p6|clear c17|clear c17b0|clear c17b1|clear c17b2|clear c19|clear c20|clear c20b0|clear c20b1|clear c20b2|clear c21|clear c21b0|clear c21b1|clear c24|clear c24b0|clear c24b1|clear c24b2|clear c25|clear c26|clear c33|clear c44|clear c46|clear c48|clear c49|clear c49b0|clear c49b1|clear c49b2|clear c51|clear c51b0|clear c52|clear c52b0|clear c53|clear c53b0|clear c55|clear c58|clear c58b0|clear p58|clear q58|clear hx58|clear p59|clear q59|clear hx59|clear c60|clear c61|clear c61b0|clear c61b1|clear c64|clear c64b0|clear p64|clear c65|clear c65b0|clear c66|clear c66b0|clear c68|clear hcz57_0|clear hcz57_1|clear hcz57_2|clear hfz57_0|clear hfz57_1|clear hfz57_2|clear hx588_0|clear hx588_1|clear hx588_2|clear hx595_0|clear p588|clear p595|clear q588|clear q595)
      obtain ⟨kq, HA, HJ44, HB⟩ := hcut
      cases kq with
      | zero => exact absurd HA.out (by simp [laws_FnSignalsReach.j3])
      | succ kj44 =>
       have H := HA.out
       clear HA
       simp only [laws_FnSignalsReach.j3] at H
       replace H := Option.bind_eq_some_iff.mp H
       obtain ⟨⟨t597, t598⟩, A690, H⟩ := H
       (try dsimp only at H)
       have A69 := Aside0.mk A690
       clear A690
       replace H := Option.bind_eq_some_iff.mp H
       obtain ⟨⟨t601, t602⟩, A700, H⟩ := H
       (try dsimp only at H)
       have A70 := Aside0.mk A700
       clear A700
       replace H := Option.bind_eq_some_iff.mp H
       obtain ⟨⟨t605, t606⟩, A710, H⟩ := H
       (try dsimp only at H)
       have A71 := Aside0.mk A710
       clear A710
       replace H := Option.bind_eq_some_iff.mp H
       obtain ⟨⟨t609, t610⟩, A720, H⟩ := H
       (try dsimp only at H)
       have A72 := Aside0.mk A720
       clear A720
       replace H := Option.bind_eq_some_iff.mp H
       obtain ⟨⟨t611, t612⟩, A730, H⟩ := H
       (try dsimp only at H)
       have A73 := Aside0.mk A730
       clear A730
       replace H := Option.bind_eq_some_iff.mp H
       obtain ⟨⟨t613, t614⟩, A740, H⟩ := H
       (try dsimp only at H)
       have A74 := Aside0.mk A740
       clear A740
       replace H := Option.bind_eq_some_iff.mp H
       obtain ⟨⟨t615, t616⟩, A750, H⟩ := H
       (try dsimp only at H)
       have A75 := Aside0.mk A750
       clear A750
       replace H := Option.bind_eq_some_iff.mp H
       obtain ⟨⟨t619, t620⟩, A760, H⟩ := H
       (try dsimp only at H)
       have A76 := Aside0.mk A760
       clear A760
       replace H := Option.bind_eq_some_iff.mp H
       obtain ⟨⟨t623, t624⟩, A770, H⟩ := H
       (try dsimp only at H)
       have A77 := Aside0.mk A770
       clear A770
       replace H := Option.bind_eq_some_iff.mp H
       obtain ⟨⟨t625, t626⟩, A780, H⟩ := H
       (try dsimp only at H)
       have A78 := Aside0.mk A780
       clear A780
       replace H := Option.bind_eq_some_iff.mp H
       obtain ⟨⟨t627, t628⟩, A790, H⟩ := H
       (try dsimp only at H)
       have A79 := Aside0.mk A790
       clear A790
       replace H := Option.bind_eq_some_iff.mp H
       obtain ⟨⟨t629, t630⟩, A800, H⟩ := H
       (try dsimp only at H)
       have A80 := Aside0.mk A800
       clear A800
       replace H := Option.bind_eq_some_iff.mp H
       obtain ⟨⟨t633, t634⟩, A810, H⟩ := H
       (try dsimp only at H)
       have A81 := Aside0.mk A810
       clear A810
       replace H := Option.bind_eq_some_iff.mp H
       obtain ⟨t637, A820, H⟩ := H
       (try dsimp only at H)
       have A82 := Aside0.mk A820
       clear A820
       replace H := Option.bind_eq_some_iff.mp H
       obtain ⟨⟨t638, t639, t640⟩, A830, H⟩ := H
       (try dsimp only at H)
       have A83 := Aside0.mk A830
       clear A830
       replace H := Option.bind_eq_some_iff.mp H
       obtain ⟨⟨t641, t642, t643⟩, A840, H⟩ := H
       (try dsimp only at H)
       have A84 := Aside0.mk A840
       clear A840
       replace H := Option.bind_eq_some_iff.mp H
       obtain ⟨⟨t644, t645, t646⟩, A850, H⟩ := H
       (try dsimp only at H)
       have A85 := Aside0.mk A850
       clear A850
       replace H := Option.bind_eq_some_iff.mp H
       obtain ⟨⟨t648, t649⟩, A860, H⟩ := H
       (try dsimp only at H)
       have A86 := Aside0.mk A860
       clear A860
       replace H := Option.bind_eq_some_iff.mp H
       obtain ⟨⟨t650, t651⟩, A870, H⟩ := H
       (try dsimp only at H)
       have A87 := Aside0.mk A870
       clear A870
       replace H := Option.bind_eq_some_iff.mp H
       obtain ⟨t652, A880, H⟩ := H
       (try dsimp only at H)
       have A88 := Aside0.mk A880
       clear A880
       replace H := Option.bind_eq_some_iff.mp H
       obtain ⟨⟨t653, t654, t655, t656⟩, A890, H⟩ := H
       (try dsimp only at H)
       have A89 := Aside0.mk A890
       clear A890
       replace H := Option.bind_eq_some_iff.mp H
       obtain ⟨⟨t658, t659, t660, t661⟩, A900, H⟩ := H
       (try dsimp only at H)
       have A90 := Aside0.mk A900
       clear A900
       have HC91 := Aside0.mk H
       clear H
       iterate 16 ((try go_upto_region 51 with (first | (go_at_call 15; (with_reducible refine (spec_DrawSpreadTimes.calls kj44 _ _ l1 t597 t598 _ ?side1 ?side2 A69.out).mono ?_); (case side1 => exact cb HR1); (case side2 => exact HC1.out); rintro e w92 ⟨v599, rfl, ho0, hb⟩; have HO600 := Aside0.mk (Kd.R_lower ho0 (below_size bw)); replace HB := bs hb; (try clear hb); (try clear ho0); obtain ⟨Ao93, co93, eo93⟩ := Kd.R_slice HO600.out; subst eo93) | (go_at_call 16; (with_reducible refine (impl_SpreadTimes.calls kj44 t597 _ _ t598 t601 t602 _ ?side1 ?side2 A70.out).mono ?_); (case side1 => exact rr HO600); (case side2 => exact rn HO600); rintro e w94 ⟨v603, rfl, ho0, hb⟩; have HO604 := Aside0.mk (Kd.R_lower (Kd.R_new' ho0 (Kd.R_lt (pr HO600))) (below_size bw)); replace HO600 := re HO600 ho0 hb; replace HB := bs hb; (try clear hb); (try clear ho0)) | (go_at_call 17; (with_reducible refine (spec_SpreadTimes.calls kj44 t597 _ _ t598 t605 t606 _ ?side1 ?side2 A71.out).mono ?_); (case side1 => exact rr HO600); (case side2 => exact rn HO600); rintro e w95 ⟨v607, rfl, ho0, hb⟩; have HO608 := Aside0.mk (Kd.R_lower (Kd.R_new' (Kd.R_new' ho0 (Kd.R_lt (pr HO600))) (Kd.R_lt (pr HO604))) (below_size bw)); replace HO600 := re HO600 ho0 hb; replace HO604 := re HO604 ho0 hb; replace HB := bs hb; (try clear hb); (try clear ho0)) | (go_at_call 18; (with_reducible refine (impl_TimeAllKnow.calls kj44 t597 _ _ t598 t609 t610 _ ?side1 ?side2 A72.out).mono ?_); (case side1 => exact rr HO600); (case side2 => exact rn HO600); rintro e w96 ⟨rfl, hb⟩; replace HO600 := rl HO600 hb; replace HO604 := rl HO604 hb; replace HO608 := rl HO608 hb; replace HB := bs hb; (try clear hb)) | (go_at_call 19; (with_reducible refine (spec_TimeAllKnow.calls kj44 t597 _ _ t598 t611 t612 _ ?side1 ?side2 A73.out).mono ?_); (case side1 => exact rr HO600); (case side2 => exact rn HO600); rintro e w97 ⟨rfl, hb⟩; replace HO600 := rl HO600 hb; replace HO604 := rl HO604 hb; replace HO608 := rl HO608 hb; replace HB := bs hb; (try clear hb)) | (go_at_call 20; (with_reducible refine (spec_DrawBestStarts.calls _ _ l1 t613 t614 _ ?side1 ?side2 A74.out).mono ?_); (case side1 => exact cb HR1); (case side2 => exact HC1.out); rintro e w98 ⟨rfl, hb⟩; replace HO600 := rl HO600 hb; replace HO604 := rl HO604 hb; replace HO608 := rl HO608 hb; replace HB := bs hb; (try clear hb)) | (go_at_call 21; (with_reducible refine (impl_BestStarts.calls kj44 t613 t614 t615 t616 _ A75.out).mono ?_); rintro e w99 ⟨v617, rfl, ho0, hb⟩; have HO618 := Aside0.mk (Kd.R_lower (Kd.R_new' (Kd.R_new' (Kd.R_new' ho0 (Kd.R_lt (pr HO600))) (Kd.R_lt (pr HO604))) (Kd.R_lt (pr HO608))) (below_size bw)); replace HO600 := re HO600 ho0 hb; replace HO604 := re HO604 ho0 hb; replace HO608 := re HO608 ho0 hb; replace HB := bs hb; (try clear hb); (try clear ho0)) | (go_at_call 22; (with_reducible refine (spec_BestStarts.calls kj44 t613 t614 t619 t620 _ A76.out).mono ?_); rintro e w100 ⟨v621, rfl, ho0, hb⟩; have HO622 := Aside0.mk (Kd.R_lower (Kd.R_new' (Kd.R_new' (Kd.R_new' (Kd.R_new' ho0 (Kd.R_lt (pr HO600))) (Kd.R_lt (pr HO604))) (Kd.R_lt (pr HO608))) (Kd.R_lt (pr HO618))) (below_size bw)); replace HO600 := re HO600 ho0 hb; replace HO604 := re HO604 ho0 hb; replace HO608 := re HO608 ho0 hb; replace HO618 := re HO618 ho0 hb; replace HB := bs hb; (try clear hb); (try clear ho0)) | (go_at_call 23; (with_reducible refine (impl_LeastTimeWith.calls kj44 t613 t614 t623 t624 _ A77.out).mono ?_); rintro e w' ⟨rfl, ⟨nd, rfl⟩⟩; (try exact zz)) | (go_at_call 24; (with_reducible refine (spec_LeastTimeWith.calls kj44 t613 t614 t625 t626 _ A78.out).mono ?_); rintro e w' ⟨rfl, ⟨nd, rfl⟩⟩; (try exact zz)) | (go_at_call 25; (with_reducible refine (spec_DrawWaitsFor.calls _ _ l1 t627 t628 _ ?side1 ?side2 A79.out).mono ?_); (case side1 => exact cb HR1); (case side2 => exact HC1.out); rintro e w101 ⟨rfl, hb⟩; replace HO600 := rl HO600 hb; replace HO604 := rl HO604 hb; replace HO608 := rl HO608 hb; replace HO618 := rl HO618 hb; replace HO622 := rl HO622 hb; replace HB := bs hb; (try clear hb)) | (go_at_call 26; (with_reducible refine (impl_WaitsFor.calls kj44 t627 t628 t629 t630 _ A80.out).mono ?_); rintro e w102 ⟨v631, rfl, ho0, hb⟩; have HO632 := Aside0.mk (Kd.R_lower (Kd.R_new' (Kd.R_new' (Kd.R_new' (Kd.R_new' (Kd.R_new' ho0 (Kd.R_lt (pr HO600))) (Kd.R_lt (pr HO604))) (Kd.R_lt (pr HO608))) (Kd.R_lt (pr HO618))) (Kd.R_lt (pr HO622))) (below_size bw)); replace HO600 := re HO600 ho0 hb; replace HO604 := re HO604 ho0 hb; replace HO608 := re HO608 ho0 hb; replace HO618 := re HO618 ho0 hb; replace HO622 := re HO622 ho0 hb; replace HB := bs hb; (try clear hb); (try clear ho0)) | (go_at_call 27; (with_reducible refine (spec_WaitsFor.calls kj44 t627 t628 t633 t634 _ A81.out).mono ?_); rintro e w103 ⟨v635, rfl, ho0, hb⟩; have HO636 := Aside0.mk (Kd.R_lower (Kd.R_new' (Kd.R_new' (Kd.R_new' (Kd.R_new' (Kd.R_new' (Kd.R_new' ho0 (Kd.R_lt (pr HO600))) (Kd.R_lt (pr HO604))) (Kd.R_lt (pr HO608))) (Kd.R_lt (pr HO618))) (Kd.R_lt (pr HO622))) (Kd.R_lt (pr HO632))) (below_size bw)); replace HO600 := re HO600 ho0 hb; replace HO604 := re HO604 ho0 hb; replace HO608 := re HO608 ho0 hb; replace HO618 := re HO618 ho0 hb; replace HO622 := re HO622 ho0 hb; replace HO632 := re HO632 ho0 hb; replace HB := bs hb; (try clear hb); (try clear ho0)) | (go_at_call 28; (with_reducible refine (spec_DrawMiddleMeeting.calls _ _ l1 t637 _ ?side1 ?side2 A82.out).mono ?_); (case side1 => exact cb HR1); (case side2 => exact HC1.out); rintro e w104 ⟨rfl, hb⟩; replace HO600 := rl HO600 hb; replace HO604 := rl HO604 hb; replace HO608 := rl HO608 hb; replace HO618 := rl HO618 hb; replace HO622 := rl HO622 hb; replace HO632 := rl HO632 hb; replace HO636 := rl HO636 hb; replace HB := bs hb; (try clear hb)) | (go_at_call 29; (with_reducible refine (impl_MiddleMeeting.calls kj44 t637 t638 t639 t640 _ A83.out).mono ?_); rintro e w105 ⟨rfl, hb⟩; replace HO600 := rl HO600 hb; replace HO604 := rl HO604 hb; replace HO608 := rl HO608 hb; replace HO618 := rl HO618 hb; replace HO622 := rl HO622 hb; replace HO632 := rl HO632 hb; replace HO636 := rl HO636 hb; replace HB := bs hb; (try clear hb)) | (go_at_call 30; (with_reducible refine (spec_MiddleMeeting.calls kj44 t637 t641 t642 t643 _ A84.out).mono ?_); rintro e w106 ⟨rfl, hb⟩; replace HO600 := rl HO600 hb; replace HO604 := rl HO604 hb; replace HO608 := rl HO608 hb; replace HO618 := rl HO618 hb; replace HO622 := rl HO622 hb; replace HO632 := rl HO632 hb; replace HO636 := rl HO636 hb; replace HB := bs hb; (try clear hb)) | (go_at_call 31; (with_reducible refine (spec_DrawSignalText.calls _ _ l1 t644 t645 t646 _ ?side1 ?side2 A85.out).mono ?_); (case side1 => exact cb HR1); (case side2 => exact HC1.out); rintro e w107 ⟨rfl, hb⟩; replace HO600 := rl HO600 hb; replace HO604 := rl HO604 hb; replace HO608 := rl HO608 hb; replace HO618 := rl HO618 hb; replace HO622 := rl HO622 hb; replace HO632 := rl HO632 hb; replace HO636 := rl HO636 hb; replace HB := bs hb; (try clear hb)) | ((with_reducible refine gate_dst (N := 55) rfl ?_); (try (refine gate_guard (by rfl) ?_; dsimp only)); refine bx 55 36 #[.int .i64 0, .bool false, .int .i64 0] ?_; intro gb647 hg w108 hbox hb; replace HO600 := rl HO600 hb; replace HO604 := rl HO604 hb; replace HO608 := rl HO608 hb; replace HO618 := rl HO618 hb; replace HO622 := rl HO622 hb; replace HO632 := rl HO632 hb; replace HO636 := rl HO636 hb; have BK647 := hbox; have GW647 := gs hg; have GE647 := gs hg; replace HB := bs hb; clear hb hbox hg; have hcz109_0 := bc BK647 0 (.int .i64 0); have hcz109_1 := bc BK647 1 (.bool false); have hcz109_2 := bc BK647 2 (.int .i64 0); have hfz109_0 := blk_frozen BK647.out 0; have hfz109_1 := blk_frozen BK647.out 1; have hfz109_2 := blk_frozen BK647.out 2) | (go_at_call 32; (with_reducible refine (impl_SignalText.calls t644 t645 t646 t648 t649 _ A86.out).mono ?_); rintro e w110 ⟨rfl, hb⟩; replace HO600 := Aside0.mk (Kd.R_below (qf3 HO600) hb); replace HO604 := Aside0.mk (Kd.R_below (qf3 HO604) hb); replace HO608 := Aside0.mk (Kd.R_below (qf3 HO608) hb); replace HO618 := Aside0.mk (Kd.R_below (qf3 HO618) hb); replace HO622 := Aside0.mk (Kd.R_below (qf3 HO622) hb); replace HO632 := Aside0.mk (Kd.R_below (qf3 HO632) hb); replace HO636 := Aside0.mk (Kd.R_below (qf3 HO636) hb); replace BK647 := Aside0.mk (blk_below (g := gb647) (o := .cells #[.int .i64 t644, .bool t645, .int .i64 t646] 36 (0, 0)) (by (with_reducible repeat (first | refine blk_drewN ?_ _ | refine blk_drew ?_ | refine blk_alloc ?_ _)); refine blk_put (cs := #[.int .i64 t644, .bool t645, .int .i64 0]) ?_ 2 _ rfl; (with_reducible repeat (first | refine blk_drewN ?_ _ | refine blk_drew ?_ | refine blk_alloc ?_ _)); refine blk_put (cs := #[.int .i64 t644, .bool false, .int .i64 0]) ?_ 1 _ rfl; (with_reducible repeat (first | refine blk_drewN ?_ _ | refine blk_drew ?_ | refine blk_alloc ?_ _)); refine blk_put (cs := #[.int .i64 0, .bool false, .int .i64 0]) ?_ 0 _ rfl; (with_reducible repeat (first | refine blk_drewN ?_ _ | refine blk_drew ?_ | refine blk_alloc ?_ _)); exact BK647.out) hb); replace HB := bs hb; (try clear hb); have hcz111_0 := bc BK647 0 (.int .i64 t644); have hcz111_1 := bc BK647 1 (.bool t645); have hcz111_2 := bc BK647 2 (.int .i64 t646); have hfz111_0 := blk_frozen BK647.out 0; have hfz111_1 := blk_frozen BK647.out 1; have hfz111_2 := blk_frozen BK647.out 2) | (go_at_call 33; (with_reducible refine (spec_SignalText.calls kj44 t644 t645 t646 t650 t651 _ A87.out).mono ?_); rintro e w112 ⟨rfl, hb⟩; replace HO600 := rl HO600 hb; replace HO604 := rl HO604 hb; replace HO608 := rl HO608 hb; replace HO618 := rl HO618 hb; replace HO622 := rl HO622 hb; replace HO632 := rl HO632 hb; replace HO636 := rl HO636 hb; replace BK647 := nk BK647 hb; replace HB := bs hb; (try clear hb)) | (go_at_call 34; (with_reducible refine (spec_DrawParseSignal.calls kj44 _ _ l1 t652 _ ?side1 ?side2 A88.out).mono ?_); (case side1 => exact cb HR1); (case side2 => exact HC1.out); rintro e w113 ⟨rfl, hb⟩; replace HO600 := rl HO600 hb; replace HO604 := rl HO604 hb; replace HO608 := rl HO608 hb; replace HO618 := rl HO618 hb; replace HO622 := rl HO622 hb; replace HO632 := rl HO632 hb; replace HO636 := rl HO636 hb; replace BK647 := nk BK647 hb; replace HB := bs hb; (try clear hb)) | (go_at_call 35; (with_reducible refine (impl_ParseSignal.calls t652 t653 t654 t655 t656 _ ?side1 A89.out).mono ?_); (case side1 => exact Dr.mm HMM); rintro e w114 ⟨rfl, hb⟩; replace HO600 := rl HO600 hb; replace HO604 := rl HO604 hb; replace HO608 := rl HO608 hb; replace HO618 := rl HO618 hb; replace HO622 := rl HO622 hb; replace HO632 := rl HO632 hb; replace HO636 := rl HO636 hb; replace BK647 := nk BK647 hb; replace HB := bs hb; (try clear hb)) | ((with_reducible refine gate_dst (N := 61) rfl ?_); (try (refine gate_guard (by rfl) ?_; dsimp only)); refine bx 61 36 #[.int .i64 0, .bool false, .int .i64 0] ?_; intro gb657 hg w115 hbox hb; replace HO600 := rl HO600 hb; replace HO604 := rl HO604 hb; replace HO608 := rl HO608 hb; replace HO618 := rl HO618 hb; replace HO622 := rl HO622 hb; replace HO632 := rl HO632 hb; replace HO636 := rl HO636 hb; have BK657 := hbox; have GW657 := gs hg; have GE657 := gs hg; replace HB := bs hb; have NB647_657 := nl BK647 hg; have NB657_647 := ng BK647 hg; replace BK647 := nk BK647 hb; clear hb hbox hg; have hnb116 := NB657_647.out; have hnc116 := NB647_657.out; have hcz117_0 := bc BK657 0 (.int .i64 0); have hcz117_1 := bc BK657 1 (.bool false); have hcz117_2 := bc BK657 2 (.int .i64 0); have hfz117_0 := blk_frozen BK657.out 0; have hfz117_1 := blk_frozen BK657.out 1; have hfz117_2 := blk_frozen BK657.out 2) | (go_at_call 36; (with_reducible refine (spec_ParseSignal.calls kj44 t652 t658 t659 t660 t661 _ A90.out).mono ?_); rintro e w118 ⟨rfl, hb⟩; replace HO600 := Aside0.mk (Kd.R_below (qf3 HO600) hb); replace HO604 := Aside0.mk (Kd.R_below (qf3 HO604) hb); replace HO608 := Aside0.mk (Kd.R_below (qf3 HO608) hb); replace HO618 := Aside0.mk (Kd.R_below (qf3 HO618) hb); replace HO622 := Aside0.mk (Kd.R_below (qf3 HO622) hb); replace HO632 := Aside0.mk (Kd.R_below (qf3 HO632) hb); replace HO636 := Aside0.mk (Kd.R_below (qf3 HO636) hb); replace BK647 := nf BK647 hb; replace BK657 := Aside0.mk (blk_below (g := gb657) (o := .cells #[.int .i64 t653, .bool t654, .int .i64 t655] 36 (0, 0)) (by (with_reducible repeat (first | refine blk_drewN ?_ _ | refine blk_drew ?_ | refine blk_alloc ?_ _)); refine blk_put (cs := #[.int .i64 t653, .bool t654, .int .i64 0]) ?_ 2 _ rfl; (with_reducible repeat (first | refine blk_drewN ?_ _ | refine blk_drew ?_ | refine blk_alloc ?_ _)); refine blk_put (cs := #[.int .i64 t653, .bool false, .int .i64 0]) ?_ 1 _ rfl; (with_reducible repeat (first | refine blk_drewN ?_ _ | refine blk_drew ?_ | refine blk_alloc ?_ _)); refine blk_put (cs := #[.int .i64 0, .bool false, .int .i64 0]) ?_ 0 _ rfl; (with_reducible repeat (first | refine blk_drewN ?_ _ | refine blk_drew ?_ | refine blk_alloc ?_ _)); exact BK657.out) hb); replace HB := bs hb; (try clear hb)) | ((with_reducible refine gate_dst (N := 63) rfl ?_); (try (refine gate_guard (by rfl) ?_; dsimp only)); refine bx 63 36 #[.int .i64 0, .bool false, .int .i64 0] ?_; intro gb662 hg w119 hbox hb; replace HO600 := rl HO600 hb; replace HO604 := rl HO604 hb; replace HO608 := rl HO608 hb; replace HO618 := rl HO618 hb; replace HO622 := rl HO622 hb; replace HO632 := rl HO632 hb; replace HO636 := rl HO636 hb; have BK662 := hbox; have GW662 := gs hg; have GE662 := gs hg; replace HB := bs hb; have NB647_662 := nl BK647 hg; have NB662_647 := ng BK647 hg; replace BK647 := nk BK647 hb; have NB657_662 := nl BK657 hg; have NB662_657 := ng BK657 hg; replace BK657 := nk BK657 hb; clear hb hbox hg; have hnb120 := NB662_647.out; have hnc120 := NB647_662.out; have hnb121 := NB662_657.out; have hnc121 := NB657_662.out; have hcz122_0 := bc BK662 0 (.int .i64 0); have hcz122_1 := bc BK662 1 (.bool false); have hcz122_2 := bc BK662 2 (.int .i64 0); have hfz122_0 := blk_frozen BK662.out 0; have hfz122_1 := blk_frozen BK662.out 1; have hfz122_2 := blk_frozen BK662.out 2))); (try go_quiet (first | (go_at_call 23; (with_reducible refine (impl_LeastTimeWith.calls kj44 t613 t614 t623 t624 _ A77.out).mono ?_); rintro e w' ⟨rfl, ⟨nd, rfl⟩⟩; (try exact zz)) | (go_at_call 24; (with_reducible refine (spec_LeastTimeWith.calls kj44 t613 t614 t625 t626 _ A78.out).mono ?_); rintro e w' ⟨rfl, ⟨nd, rfl⟩⟩; (try exact zz)))))
       (try simp only [Act.put, List.setIfInBounds_toArray, List.set_cons_zero, List.set_cons_succ])
       go_cut [269, 280, 286, 294, 300, 307, 311, 312, 313, 314, 315, 316, 317, 318, 319, 320, 321, 322, 323, 324, 422] from 9999 (fun _ _ _ _ _ _ _ _ _ _ _ _ _ _ _ _ _ _ _ _ v422 wc => ∃ (kq : Nat) (x422_90 : Bool), v422 = .bool x422_90 ∧ Aside0 (laws_FnSignalsReach.j4 kq t597 t598 t601 t602 t609 t613 t614 t615 t616 t623 t627 t628 t629 t630 t637 t638 t639 t640 t648 t649 t652 t656 x422_90 t644 t645 t646 t653 t654 t655 = some r) ∧ Aside0 (kq ≤ kj44) ∧ Aside0 (Kd.R (Kd.int .i64) 3 wc w.heap.size (fun k_ => some k_ ≠ (v603 : Value).ownBlock ∧ some k_ ≠ (v617 : Value).ownBlock ∧ some k_ ≠ (v631 : Value).ownBlock) (.slice Ao93 t598.length co93) t598) ∧ Aside0 (Kd.R (Kd.int .i64) 3 wc w.heap.size (fun k_ => some k_ ≠ ((.slice Ao93 t598.length co93) : Value).ownBlock ∧ some k_ ≠ (v617 : Value).ownBlock ∧ some k_ ≠ (v631 : Value).ownBlock) v603 t601) ∧ Aside0 (Kd.R (Kd.int .i64) 3 wc w.heap.size (fun k_ => some k_ ≠ ((.slice Ao93 t598.length co93) : Value).ownBlock ∧ some k_ ≠ (v603 : Value).ownBlock ∧ some k_ ≠ (v631 : Value).ownBlock) v617 t615) ∧ Aside0 (Kd.R (Kd.int .i64) 3 wc w.heap.size (fun k_ => some k_ ≠ ((.slice Ao93 t598.length co93) : Value).ownBlock ∧ some k_ ≠ (v603 : Value).ownBlock ∧ some k_ ≠ (v617 : Value).ownBlock) v631 t629) ∧ Aside0 (wc.heap[gb647]? = some (.cells #[.int .i64 t644, .bool t645, .int .i64 t646] 36 (0, 0))) ∧ Aside0 (wc.heap[gb657]? = some (.cells #[.int .i64 t653, .bool t654, .int .i64 t655] 36 (0, 0))) ∧ Aside0 (Below w.heap.size w wc))
       case first => as_aux_lemma =>
        have H := HC91.out
        clear HC91
        by_cases c123 : (t602 != t606) = true
        ·rw [if_pos c123] at H
         exact absurd (Option.some.inj H) (by rw [HRT.out]; decide)
        ·rw [if_neg c123] at H
         have c123b0 : (t602 != t606) = false := by simpa using c123
         (try (have c123b1 : decide (t602 = t606) = true := by simpa using c123))
         (try (have c123b2 : (t602 == t606) = true := by simpa using c123))
         clear c123
         (first | rw [c123b0] | rw [@decide_eq_true _ _ (of_decide_eq_true c123b1)] | rw [@decide_eq_false _ _ (of_decide_eq_false c123b1)] | (simp only [i64_w, i32_w]; rw [c123b0]) | skip)
         replace H := Option.bind_eq_some_iff.mp H
         obtain ⟨t663, A1240, H⟩ := H
         (try dsimp only at H)
         have A124 := Aside0.mk A1240
         clear A1240
         by_cases c125 : t663 = true
         ·subst c125
          rw [if_pos rfl] at H
          by_cases c126 : (t610 != t612) = true
          ·rw [if_pos c126] at H
           exact absurd (Option.some.inj H) (by rw [HRT.out]; decide)
          ·rw [if_neg c126] at H
           have c126b0 : (t610 != t612) = false := by simpa using c126
           (try (have c126b1 : decide (t610 = t612) = true := by simpa using c126))
           (try (have c126b2 : (t610 == t612) = true := by simpa using c126))
           clear c126
           by_cases c127 : t609 = t611
           ·rw [if_pos c127] at H
            have c127b0 : (t609 == t611) = true := beq_iff_eq.mpr c127
            have c127b1 : (t609 != t611) = false := bne_eq_false_iff_eq.mpr c127
            clear c127
            by_cases c128 : (t616 != t620) = true
            ·rw [if_pos c128] at H
             exact absurd (Option.some.inj H) (by rw [HRT.out]; decide)
            ·rw [if_neg c128] at H
             have c128b0 : (t616 != t620) = false := by simpa using c128
             (try (have c128b1 : decide (t616 = t620) = true := by simpa using c128))
             (try (have c128b2 : (t616 == t620) = true := by simpa using c128))
             clear c128
             replace H := Option.bind_eq_some_iff.mp H
             obtain ⟨t664, A1290, H⟩ := H
             (try dsimp only at H)
             have A129 := Aside0.mk A1290
             clear A1290
             by_cases c130 : t664 = true
             ·subst c130
              rw [if_pos rfl] at H
              by_cases c131 : (t624 != t626) = true
              ·rw [if_pos c131] at H
               exact absurd (Option.some.inj H) (by rw [HRT.out]; decide)
              ·rw [if_neg c131] at H
               have c131b0 : (t624 != t626) = false := by simpa using c131
               (try (have c131b1 : decide (t624 = t626) = true := by simpa using c131))
               (try (have c131b2 : (t624 == t626) = true := by simpa using c131))
               clear c131
               by_cases c132 : t623 = t625
               ·rw [if_pos c132] at H
                have c132b0 : (t623 == t625) = true := beq_iff_eq.mpr c132
                have c132b1 : (t623 != t625) = false := bne_eq_false_iff_eq.mpr c132
                clear c132
                by_cases c133 : (t630 != t634) = true
                ·rw [if_pos c133] at H
                 exact absurd (Option.some.inj H) (by rw [HRT.out]; decide)
                ·rw [if_neg c133] at H
                 have c133b0 : (t630 != t634) = false := by simpa using c133
                 (try (have c133b1 : decide (t630 = t634) = true := by simpa using c133))
                 (try (have c133b2 : (t630 == t634) = true := by simpa using c133))
                 clear c133
                 replace H := Option.bind_eq_some_iff.mp H
                 obtain ⟨t665, A1340, H⟩ := H
                 (try dsimp only at H)
                 have A134 := Aside0.mk A1340
                 clear A1340
                 by_cases c135 : t665 = true
                 ·subst c135
                  rw [if_pos rfl] at H
                  by_cases c136 : (t640 != t643) = true
                  ·rw [if_pos c136] at H
                   exact absurd (Option.some.inj H) (by rw [HRT.out]; decide)
                  ·rw [if_neg c136] at H
                   have c136b0 : (t640 != t643) = false := by simpa using c136
                   (try (have c136b1 : decide (t640 = t643) = true := by simpa using c136))
                   (try (have c136b2 : (t640 == t643) = true := by simpa using c136))
                   clear c136
                   by_cases c137 : t638 = t641
                   ·rw [if_pos c137] at H
                    have c137b0 : (t638 == t641) = true := beq_iff_eq.mpr c137
                    have c137b1 : (t638 != t641) = false := bne_eq_false_iff_eq.mpr c137
                    clear c137
                    by_cases c138 : t639 = t642
                    ·rw [if_pos c138] at H
                     have c138b0 : (t639 == t642) = true := beq_iff_eq.mpr c138
                     have c138b1 : (t639 != t642) = false := bne_eq_false_iff_eq.mpr c138
                     clear c138
                     by_cases c139 : (t649 != t651) = true
                     ·rw [if_pos c139] at H
                      exact absurd (Option.some.inj H) (by rw [HRT.out]; decide)
                     ·rw [if_neg c139] at H
                      have c139b0 : (t649 != t651) = false := by simpa using c139
                      (try (have c139b1 : decide (t649 = t651) = true := by simpa using c139))
                      (try (have c139b2 : (t649 == t651) = true := by simpa using c139))
                      clear c139
                      by_cases c140 : t648.toList = t650.toList
                      ·rw [if_pos c140] at H
                       have c140b0 : (t648.toList == t650.toList) = true := beq_iff_eq.mpr c140
                       have c140b1 : (t648.toList != t650.toList) = false := bne_eq_false_iff_eq.mpr c140
                       clear c140
                       by_cases c141 : (t656 != t661) = true
                       ·rw [if_pos c141] at H
                        exact absurd (Option.some.inj H) (by rw [HRT.out]; decide)
                       ·rw [if_neg c141] at H
                        have c141b0 : (t656 != t661) = false := by simpa using c141
                        (try (have c141b1 : decide (t656 = t661) = true := by simpa using c141))
                        (try (have c141b2 : (t656 == t661) = true := by simpa using c141))
                        clear c141
                        by_cases c142 : (!(t653 == t658) || (!(t654 == t659) || (!(t655 == t660)))) = true
                        ·rw [if_pos c142] at H
                         exact absurd (Option.some.inj H) (by rw [HRT.out]; decide)
                        ·rw [if_neg c142] at H
                         have c142b0 : (!(t653 == t658) || (!(t654 == t659) || (!(t655 == t660)))) = false := by simpa using c142
                         clear c142
                         by_cases c143 : (t610 != t602) = true
                         ·rw [if_pos c143] at H
                          exact absurd (Option.some.inj H) (by rw [HRT.out]; decide)
                         ·rw [if_neg c143] at H
                          have c143b0 : (t610 != t602) = false := by simpa using c143
                          (try (have c143b1 : decide (t610 = t602) = true := by simpa using c143))
                          (try (have c143b2 : (t610 == t602) = true := by simpa using c143))
                          clear c143
                          by_cases c144 : t616 = true
                          ·subst c144
                           rw [if_pos rfl] at H
                           have H' := Aside0.mk H
                           clear H
                           obtain ⟨Ao145, co145, eo145⟩ := Kd.R_slice HO604.out
                           subst eo145
                           obtain ⟨Ao146, co146, eo146⟩ := Kd.R_slice HO608.out
                           subst eo146
                           iterate 4 ((try go_wp2_with (first | (go_at_call 10; (with_reducible refine (laws_vSame.calls kj44 _ _ t601 _ _ t605 true _ ?side1 ?side2 ?side3 ?side4 A124.out).mono ?_); (case side1 => refine (Kd.R_reads' (e := 3) (base := w.heap.size) (ok := fun k_ => ((((((True ∧ some k_ ≠ (.slice Ao93 t598.length co93 : Value).ownBlock) ∧ some k_ ≠ (.slice Ao146 t605.length co146 : Value).ownBlock) ∧ some k_ ≠ (v617 : Value).ownBlock) ∧ some k_ ≠ (v621 : Value).ownBlock) ∧ some k_ ≠ (v631 : Value).ownBlock) ∧ some k_ ≠ (v635 : Value).ownBlock)) (n := t601.length) (c := co145) ?_).2.2; exact (qf3 HO604)); (case side2 => exact rn HO604); (case side3 => refine (Kd.R_reads' (e := 3) (base := w.heap.size) (ok := fun k_ => ((((((True ∧ some k_ ≠ (.slice Ao93 t598.length co93 : Value).ownBlock) ∧ some k_ ≠ (.slice Ao145 t601.length co145 : Value).ownBlock) ∧ some k_ ≠ (v617 : Value).ownBlock) ∧ some k_ ≠ (v621 : Value).ownBlock) ∧ some k_ ≠ (v631 : Value).ownBlock) ∧ some k_ ≠ (v635 : Value).ownBlock)) (n := t605.length) (c := co146) ?_).2.2; exact (qf3 HO608)); (case side4 => exact rn HO608); rintro e w' ⟨rfl, ⟨nd, rfl⟩⟩; (try exact zz); obtain ⟨Ao147, co147, eo147⟩ := Kd.R_slice HO618.out; subst eo147; obtain ⟨Ao148, co148, eo148⟩ := Kd.R_slice HO622.out; subst eo148) | (go_at_call 10; (with_reducible refine (laws_vSame.calls kj44 _ _ t615 _ _ t619 true _ ?side1 ?side2 ?side3 ?side4 A129.out).mono ?_); (case side1 => refine (Kd.R_reads' (e := 3) (base := w.heap.size) (ok := fun k_ => ((((((True ∧ some k_ ≠ (.slice Ao93 t598.length co93 : Value).ownBlock) ∧ some k_ ≠ (.slice Ao145 t601.length co145 : Value).ownBlock) ∧ some k_ ≠ (.slice Ao146 t605.length co146 : Value).ownBlock) ∧ some k_ ≠ (.slice Ao148 t619.length co148 : Value).ownBlock) ∧ some k_ ≠ (v631 : Value).ownBlock) ∧ some k_ ≠ (v635 : Value).ownBlock)) (n := t615.length) (c := co147) ?_).2.2; exact (qf3 HO618)); (case side2 => exact rn HO618); (case side3 => refine (Kd.R_reads' (e := 3) (base := w.heap.size) (ok := fun k_ => ((((((True ∧ some k_ ≠ (.slice Ao93 t598.length co93 : Value).ownBlock) ∧ some k_ ≠ (.slice Ao145 t601.length co145 : Value).ownBlock) ∧ some k_ ≠ (.slice Ao146 t605.length co146 : Value).ownBlock) ∧ some k_ ≠ (.slice Ao147 t615.length co147 : Value).ownBlock) ∧ some k_ ≠ (v631 : Value).ownBlock) ∧ some k_ ≠ (v635 : Value).ownBlock)) (n := t619.length) (c := co148) ?_).2.2; exact (qf3 HO622)); (case side4 => exact rn HO622); rintro e w' ⟨rfl, ⟨nd, rfl⟩⟩; (try exact zz); obtain ⟨Ao149, co149, eo149⟩ := Kd.R_slice HO632.out; subst eo149; obtain ⟨Ao150, co150, eo150⟩ := Kd.R_slice HO636.out; subst eo150) | (go_at_call 10; (with_reducible refine (laws_vSame.calls kj44 _ _ t629 _ _ t633 true _ ?side1 ?side2 ?side3 ?side4 A134.out).mono ?_); (case side1 => refine (Kd.R_reads' (e := 3) (base := w.heap.size) (ok := fun k_ => ((((((True ∧ some k_ ≠ (.slice Ao93 t598.length co93 : Value).ownBlock) ∧ some k_ ≠ (.slice Ao145 t601.length co145 : Value).ownBlock) ∧ some k_ ≠ (.slice Ao146 t605.length co146 : Value).ownBlock) ∧ some k_ ≠ (.slice Ao147 t615.length co147 : Value).ownBlock) ∧ some k_ ≠ (.slice Ao148 t619.length co148 : Value).ownBlock) ∧ some k_ ≠ (.slice Ao150 t633.length co150 : Value).ownBlock)) (n := t629.length) (c := co149) ?_).2.2; exact (qf3 HO632)); (case side2 => exact rn HO632); (case side3 => refine (Kd.R_reads' (e := 3) (base := w.heap.size) (ok := fun k_ => ((((((True ∧ some k_ ≠ (.slice Ao93 t598.length co93 : Value).ownBlock) ∧ some k_ ≠ (.slice Ao145 t601.length co145 : Value).ownBlock) ∧ some k_ ≠ (.slice Ao146 t605.length co146 : Value).ownBlock) ∧ some k_ ≠ (.slice Ao147 t615.length co147 : Value).ownBlock) ∧ some k_ ≠ (.slice Ao148 t619.length co148 : Value).ownBlock) ∧ some k_ ≠ (.slice Ao149 t629.length co149 : Value).ownBlock)) (n := t633.length) (c := co150) ?_).2.2; exact (qf3 HO636)); (case side4 => exact rn HO636); rintro e w' ⟨rfl, ⟨nd, rfl⟩⟩; (try exact zz); have hnb151 := NB657_647.out; have hnc151 := NB647_657.out; have hnb152 := NB657_662.out; have hnc152 := NB662_657.out; have hcz153_0 := bc BK657 0 (.int .i64 t653); have hcz153_1 := bc BK657 1 (.bool t654); have hcz153_2 := bc BK657 2 (.int .i64 t655); have hfz153_0 := blk_frozen BK657.out 0; have hfz153_1 := blk_frozen BK657.out 1; have hfz153_2 := blk_frozen BK657.out 2; have hnb154 := NB662_647.out; have hnc154 := NB647_662.out; have hcz155_0 := bc BK662 0 (.int .i64 0); have hcz155_1 := bc BK662 1 (.bool false); have hcz155_2 := bc BK662 2 (.int .i64 0); have hfz155_0 := blk_frozen BK662.out 0; have hfz155_1 := blk_frozen BK662.out 1; have hfz155_2 := blk_frozen BK662.out 2))); (try go_quiet (first | (go_at_call 10; (with_reducible refine (laws_vSame.calls kj44 _ _ t601 _ _ t605 true _ ?side1 ?side2 ?side3 ?side4 A124.out).mono ?_); (case side1 => refine (Kd.R_reads' (e := 3) (base := w.heap.size) (ok := fun k_ => ((((((True ∧ some k_ ≠ (.slice Ao93 t598.length co93 : Value).ownBlock) ∧ some k_ ≠ (.slice Ao146 t605.length co146 : Value).ownBlock) ∧ some k_ ≠ (v617 : Value).ownBlock) ∧ some k_ ≠ (v621 : Value).ownBlock) ∧ some k_ ≠ (v631 : Value).ownBlock) ∧ some k_ ≠ (v635 : Value).ownBlock)) (n := t601.length) (c := co145) ?_).2.2; exact (qf3 HO604)); (case side2 => exact rn HO604); (case side3 => refine (Kd.R_reads' (e := 3) (base := w.heap.size) (ok := fun k_ => ((((((True ∧ some k_ ≠ (.slice Ao93 t598.length co93 : Value).ownBlock) ∧ some k_ ≠ (.slice Ao145 t601.length co145 : Value).ownBlock) ∧ some k_ ≠ (v617 : Value).ownBlock) ∧ some k_ ≠ (v621 : Value).ownBlock) ∧ some k_ ≠ (v631 : Value).ownBlock) ∧ some k_ ≠ (v635 : Value).ownBlock)) (n := t605.length) (c := co146) ?_).2.2; exact (qf3 HO608)); (case side4 => exact rn HO608); rintro e w' ⟨rfl, ⟨nd, rfl⟩⟩; (try exact zz); obtain ⟨Ao147, co147, eo147⟩ := Kd.R_slice HO618.out; subst eo147; obtain ⟨Ao148, co148, eo148⟩ := Kd.R_slice HO622.out; subst eo148) | (go_at_call 10; (with_reducible refine (laws_vSame.calls kj44 _ _ t615 _ _ t619 true _ ?side1 ?side2 ?side3 ?side4 A129.out).mono ?_); (case side1 => refine (Kd.R_reads' (e := 3) (base := w.heap.size) (ok := fun k_ => ((((((True ∧ some k_ ≠ (.slice Ao93 t598.length co93 : Value).ownBlock) ∧ some k_ ≠ (.slice Ao145 t601.length co145 : Value).ownBlock) ∧ some k_ ≠ (.slice Ao146 t605.length co146 : Value).ownBlock) ∧ some k_ ≠ (.slice Ao148 t619.length co148 : Value).ownBlock) ∧ some k_ ≠ (v631 : Value).ownBlock) ∧ some k_ ≠ (v635 : Value).ownBlock)) (n := t615.length) (c := co147) ?_).2.2; exact (qf3 HO618)); (case side2 => exact rn HO618); (case side3 => refine (Kd.R_reads' (e := 3) (base := w.heap.size) (ok := fun k_ => ((((((True ∧ some k_ ≠ (.slice Ao93 t598.length co93 : Value).ownBlock) ∧ some k_ ≠ (.slice Ao145 t601.length co145 : Value).ownBlock) ∧ some k_ ≠ (.slice Ao146 t605.length co146 : Value).ownBlock) ∧ some k_ ≠ (.slice Ao147 t615.length co147 : Value).ownBlock) ∧ some k_ ≠ (v631 : Value).ownBlock) ∧ some k_ ≠ (v635 : Value).ownBlock)) (n := t619.length) (c := co148) ?_).2.2; exact (qf3 HO622)); (case side4 => exact rn HO622); rintro e w' ⟨rfl, ⟨nd, rfl⟩⟩; (try exact zz); obtain ⟨Ao149, co149, eo149⟩ := Kd.R_slice HO632.out; subst eo149; obtain ⟨Ao150, co150, eo150⟩ := Kd.R_slice HO636.out; subst eo150) | (go_at_call 10; (with_reducible refine (laws_vSame.calls kj44 _ _ t629 _ _ t633 true _ ?side1 ?side2 ?side3 ?side4 A134.out).mono ?_); (case side1 => refine (Kd.R_reads' (e := 3) (base := w.heap.size) (ok := fun k_ => ((((((True ∧ some k_ ≠ (.slice Ao93 t598.length co93 : Value).ownBlock) ∧ some k_ ≠ (.slice Ao145 t601.length co145 : Value).ownBlock) ∧ some k_ ≠ (.slice Ao146 t605.length co146 : Value).ownBlock) ∧ some k_ ≠ (.slice Ao147 t615.length co147 : Value).ownBlock) ∧ some k_ ≠ (.slice Ao148 t619.length co148 : Value).ownBlock) ∧ some k_ ≠ (.slice Ao150 t633.length co150 : Value).ownBlock)) (n := t629.length) (c := co149) ?_).2.2; exact (qf3 HO632)); (case side2 => exact rn HO632); (case side3 => refine (Kd.R_reads' (e := 3) (base := w.heap.size) (ok := fun k_ => ((((((True ∧ some k_ ≠ (.slice Ao93 t598.length co93 : Value).ownBlock) ∧ some k_ ≠ (.slice Ao145 t601.length co145 : Value).ownBlock) ∧ some k_ ≠ (.slice Ao146 t605.length co146 : Value).ownBlock) ∧ some k_ ≠ (.slice Ao147 t615.length co147 : Value).ownBlock) ∧ some k_ ≠ (.slice Ao148 t619.length co148 : Value).ownBlock) ∧ some k_ ≠ (.slice Ao149 t629.length co149 : Value).ownBlock)) (n := t633.length) (c := co150) ?_).2.2; exact (qf3 HO636)); (case side4 => exact rn HO636); rintro e w' ⟨rfl, ⟨nd, rfl⟩⟩; (try exact zz); have hnb151 := NB657_647.out; have hnc151 := NB647_657.out; have hnb152 := NB657_662.out; have hnc152 := NB662_657.out; have hcz153_0 := bc BK657 0 (.int .i64 t653); have hcz153_1 := bc BK657 1 (.bool t654); have hcz153_2 := bc BK657 2 (.int .i64 t655); have hfz153_0 := blk_frozen BK657.out 0; have hfz153_1 := blk_frozen BK657.out 1; have hfz153_2 := blk_frozen BK657.out 2; have hnb154 := NB662_647.out; have hnc154 := NB647_662.out; have hcz155_0 := bc BK662 0 (.int .i64 0); have hcz155_1 := bc BK662 1 (.bool false); have hcz155_2 := bc BK662 2 (.int .i64 0); have hfz155_0 := blk_frozen BK662.out 0; have hfz155_1 := blk_frozen BK662.out 1; have hfz155_2 := blk_frozen BK662.out 2))))
                           go_meet
                           case rel => exact ⟨_, (!t624), (rs), H', ⟨by have := HJ9.out; have := HJ44.out; first | omega | exact Nat.le_refl _⟩, ⟨by (with_reducible repeat (first | apply Kd.R_alloc | apply Kd.R_drewN | apply Kd.R_drew)); exact Kd.R_mono (Kd.R_far (p := ⟨gb662, 2, none⟩) (Kd.R_far (p := ⟨gb662, 1, none⟩) (Kd.R_far (p := ⟨gb662, 0, none⟩) (Kd.R_types HO600.out BK662.out (by decide)) (fun _ hk => hk.2) (.int .i64 t658)) (fun _ hk => hk.2) (.bool t659)) (fun _ hk => hk.2) (.int .i64 t660)) (fun _ hk => ⟨hk.1.1.1.1.1.1.2, ⟨hk.1.1.1.1.2, hk.1.1.2⟩⟩)⟩, ⟨by (with_reducible repeat (first | apply Kd.R_alloc | apply Kd.R_drewN | apply Kd.R_drew)); exact Kd.R_mono (Kd.R_far (p := ⟨gb662, 2, none⟩) (Kd.R_far (p := ⟨gb662, 1, none⟩) (Kd.R_far (p := ⟨gb662, 0, none⟩) (Kd.R_types HO604.out BK662.out (by decide)) (fun _ hk => hk.2) (.int .i64 t658)) (fun _ hk => hk.2) (.bool t659)) (fun _ hk => hk.2) (.int .i64 t660)) (fun _ hk => ⟨hk.1.1.1.1.1.1.2, ⟨hk.1.1.1.1.2, hk.1.1.2⟩⟩)⟩, ⟨by (with_reducible repeat (first | apply Kd.R_alloc | apply Kd.R_drewN | apply Kd.R_drew)); exact Kd.R_mono (Kd.R_far (p := ⟨gb662, 2, none⟩) (Kd.R_far (p := ⟨gb662, 1, none⟩) (Kd.R_far (p := ⟨gb662, 0, none⟩) (Kd.R_types HO618.out BK662.out (by decide)) (fun _ hk => hk.2) (.int .i64 t658)) (fun _ hk => hk.2) (.bool t659)) (fun _ hk => hk.2) (.int .i64 t660)) (fun _ hk => ⟨hk.1.1.1.1.1.1.2, ⟨hk.1.1.1.1.1.2, hk.1.1.2⟩⟩)⟩, ⟨by (with_reducible repeat (first | apply Kd.R_alloc | apply Kd.R_drewN | apply Kd.R_drew)); exact Kd.R_mono (Kd.R_far (p := ⟨gb662, 2, none⟩) (Kd.R_far (p := ⟨gb662, 1, none⟩) (Kd.R_far (p := ⟨gb662, 0, none⟩) (Kd.R_types HO632.out BK662.out (by decide)) (fun _ hk => hk.2) (.int .i64 t658)) (fun _ hk => hk.2) (.bool t659)) (fun _ hk => hk.2) (.int .i64 t660)) (fun _ hk => ⟨hk.1.1.1.1.1.1.2, ⟨hk.1.1.1.1.1.2, hk.1.1.1.2⟩⟩)⟩, ⟨pf BK647⟩, ⟨pf BK657⟩, ⟨bw⟩⟩
                          ·replace c144 := Bool.eq_false_iff.mpr c144
                           subst c144
                           rw [if_neg (show ¬ (false = true) by decide)] at H
                           have H' := Aside0.mk H
                           clear H
                           obtain ⟨Ao156, co156, eo156⟩ := Kd.R_slice HO604.out
                           subst eo156
                           obtain ⟨Ao157, co157, eo157⟩ := Kd.R_slice HO608.out
                           subst eo157
                           iterate 4 ((try go_wp2_with (first | (go_at_call 10; (with_reducible refine (laws_vSame.calls kj44 _ _ t601 _ _ t605 true _ ?side1 ?side2 ?side3 ?side4 A124.out).mono ?_); (case side1 => refine (Kd.R_reads' (e := 3) (base := w.heap.size) (ok := fun k_ => ((((((True ∧ some k_ ≠ (.slice Ao93 t598.length co93 : Value).ownBlock) ∧ some k_ ≠ (.slice Ao157 t605.length co157 : Value).ownBlock) ∧ some k_ ≠ (v617 : Value).ownBlock) ∧ some k_ ≠ (v621 : Value).ownBlock) ∧ some k_ ≠ (v631 : Value).ownBlock) ∧ some k_ ≠ (v635 : Value).ownBlock)) (n := t601.length) (c := co156) ?_).2.2; exact (qf3 HO604)); (case side2 => exact rn HO604); (case side3 => refine (Kd.R_reads' (e := 3) (base := w.heap.size) (ok := fun k_ => ((((((True ∧ some k_ ≠ (.slice Ao93 t598.length co93 : Value).ownBlock) ∧ some k_ ≠ (.slice Ao156 t601.length co156 : Value).ownBlock) ∧ some k_ ≠ (v617 : Value).ownBlock) ∧ some k_ ≠ (v621 : Value).ownBlock) ∧ some k_ ≠ (v631 : Value).ownBlock) ∧ some k_ ≠ (v635 : Value).ownBlock)) (n := t605.length) (c := co157) ?_).2.2; exact (qf3 HO608)); (case side4 => exact rn HO608); rintro e w' ⟨rfl, ⟨nd, rfl⟩⟩; (try exact zz); obtain ⟨Ao158, co158, eo158⟩ := Kd.R_slice HO618.out; subst eo158; obtain ⟨Ao159, co159, eo159⟩ := Kd.R_slice HO622.out; subst eo159) | (go_at_call 10; (with_reducible refine (laws_vSame.calls kj44 _ _ t615 _ _ t619 true _ ?side1 ?side2 ?side3 ?side4 A129.out).mono ?_); (case side1 => refine (Kd.R_reads' (e := 3) (base := w.heap.size) (ok := fun k_ => ((((((True ∧ some k_ ≠ (.slice Ao93 t598.length co93 : Value).ownBlock) ∧ some k_ ≠ (.slice Ao156 t601.length co156 : Value).ownBlock) ∧ some k_ ≠ (.slice Ao157 t605.length co157 : Value).ownBlock) ∧ some k_ ≠ (.slice Ao159 t619.length co159 : Value).ownBlock) ∧ some k_ ≠ (v631 : Value).ownBlock) ∧ some k_ ≠ (v635 : Value).ownBlock)) (n := t615.length) (c := co158) ?_).2.2; exact (qf3 HO618)); (case side2 => exact rn HO618); (case side3 => refine (Kd.R_reads' (e := 3) (base := w.heap.size) (ok := fun k_ => ((((((True ∧ some k_ ≠ (.slice Ao93 t598.length co93 : Value).ownBlock) ∧ some k_ ≠ (.slice Ao156 t601.length co156 : Value).ownBlock) ∧ some k_ ≠ (.slice Ao157 t605.length co157 : Value).ownBlock) ∧ some k_ ≠ (.slice Ao158 t615.length co158 : Value).ownBlock) ∧ some k_ ≠ (v631 : Value).ownBlock) ∧ some k_ ≠ (v635 : Value).ownBlock)) (n := t619.length) (c := co159) ?_).2.2; exact (qf3 HO622)); (case side4 => exact rn HO622); rintro e w' ⟨rfl, ⟨nd, rfl⟩⟩; (try exact zz); obtain ⟨Ao160, co160, eo160⟩ := Kd.R_slice HO632.out; subst eo160; obtain ⟨Ao161, co161, eo161⟩ := Kd.R_slice HO636.out; subst eo161) | (go_at_call 10; (with_reducible refine (laws_vSame.calls kj44 _ _ t629 _ _ t633 true _ ?side1 ?side2 ?side3 ?side4 A134.out).mono ?_); (case side1 => refine (Kd.R_reads' (e := 3) (base := w.heap.size) (ok := fun k_ => ((((((True ∧ some k_ ≠ (.slice Ao93 t598.length co93 : Value).ownBlock) ∧ some k_ ≠ (.slice Ao156 t601.length co156 : Value).ownBlock) ∧ some k_ ≠ (.slice Ao157 t605.length co157 : Value).ownBlock) ∧ some k_ ≠ (.slice Ao158 t615.length co158 : Value).ownBlock) ∧ some k_ ≠ (.slice Ao159 t619.length co159 : Value).ownBlock) ∧ some k_ ≠ (.slice Ao161 t633.length co161 : Value).ownBlock)) (n := t629.length) (c := co160) ?_).2.2; exact (qf3 HO632)); (case side2 => exact rn HO632); (case side3 => refine (Kd.R_reads' (e := 3) (base := w.heap.size) (ok := fun k_ => ((((((True ∧ some k_ ≠ (.slice Ao93 t598.length co93 : Value).ownBlock) ∧ some k_ ≠ (.slice Ao156 t601.length co156 : Value).ownBlock) ∧ some k_ ≠ (.slice Ao157 t605.length co157 : Value).ownBlock) ∧ some k_ ≠ (.slice Ao158 t615.length co158 : Value).ownBlock) ∧ some k_ ≠ (.slice Ao159 t619.length co159 : Value).ownBlock) ∧ some k_ ≠ (.slice Ao160 t629.length co160 : Value).ownBlock)) (n := t633.length) (c := co161) ?_).2.2; exact (qf3 HO636)); (case side4 => exact rn HO636); rintro e w' ⟨rfl, ⟨nd, rfl⟩⟩; (try exact zz); have hnb162 := NB657_647.out; have hnc162 := NB647_657.out; have hnb163 := NB657_662.out; have hnc163 := NB662_657.out; have hcz164_0 := bc BK657 0 (.int .i64 t653); have hcz164_1 := bc BK657 1 (.bool t654); have hcz164_2 := bc BK657 2 (.int .i64 t655); have hfz164_0 := blk_frozen BK657.out 0; have hfz164_1 := blk_frozen BK657.out 1; have hfz164_2 := blk_frozen BK657.out 2; have hnb165 := NB662_647.out; have hnc165 := NB647_662.out; have hcz166_0 := bc BK662 0 (.int .i64 0); have hcz166_1 := bc BK662 1 (.bool false); have hcz166_2 := bc BK662 2 (.int .i64 0); have hfz166_0 := blk_frozen BK662.out 0; have hfz166_1 := blk_frozen BK662.out 1; have hfz166_2 := blk_frozen BK662.out 2))); (try go_quiet (first | (go_at_call 10; (with_reducible refine (laws_vSame.calls kj44 _ _ t601 _ _ t605 true _ ?side1 ?side2 ?side3 ?side4 A124.out).mono ?_); (case side1 => refine (Kd.R_reads' (e := 3) (base := w.heap.size) (ok := fun k_ => ((((((True ∧ some k_ ≠ (.slice Ao93 t598.length co93 : Value).ownBlock) ∧ some k_ ≠ (.slice Ao157 t605.length co157 : Value).ownBlock) ∧ some k_ ≠ (v617 : Value).ownBlock) ∧ some k_ ≠ (v621 : Value).ownBlock) ∧ some k_ ≠ (v631 : Value).ownBlock) ∧ some k_ ≠ (v635 : Value).ownBlock)) (n := t601.length) (c := co156) ?_).2.2; exact (qf3 HO604)); (case side2 => exact rn HO604); (case side3 => refine (Kd.R_reads' (e := 3) (base := w.heap.size) (ok := fun k_ => ((((((True ∧ some k_ ≠ (.slice Ao93 t598.length co93 : Value).ownBlock) ∧ some k_ ≠ (.slice Ao156 t601.length co156 : Value).ownBlock) ∧ some k_ ≠ (v617 : Value).ownBlock) ∧ some k_ ≠ (v621 : Value).ownBlock) ∧ some k_ ≠ (v631 : Value).ownBlock) ∧ some k_ ≠ (v635 : Value).ownBlock)) (n := t605.length) (c := co157) ?_).2.2; exact (qf3 HO608)); (case side4 => exact rn HO608); rintro e w' ⟨rfl, ⟨nd, rfl⟩⟩; (try exact zz); obtain ⟨Ao158, co158, eo158⟩ := Kd.R_slice HO618.out; subst eo158; obtain ⟨Ao159, co159, eo159⟩ := Kd.R_slice HO622.out; subst eo159) | (go_at_call 10; (with_reducible refine (laws_vSame.calls kj44 _ _ t615 _ _ t619 true _ ?side1 ?side2 ?side3 ?side4 A129.out).mono ?_); (case side1 => refine (Kd.R_reads' (e := 3) (base := w.heap.size) (ok := fun k_ => ((((((True ∧ some k_ ≠ (.slice Ao93 t598.length co93 : Value).ownBlock) ∧ some k_ ≠ (.slice Ao156 t601.length co156 : Value).ownBlock) ∧ some k_ ≠ (.slice Ao157 t605.length co157 : Value).ownBlock) ∧ some k_ ≠ (.slice Ao159 t619.length co159 : Value).ownBlock) ∧ some k_ ≠ (v631 : Value).ownBlock) ∧ some k_ ≠ (v635 : Value).ownBlock)) (n := t615.length) (c := co158) ?_).2.2; exact (qf3 HO618)); (case side2 => exact rn HO618); (case side3 => refine (Kd.R_reads' (e := 3) (base := w.heap.size) (ok := fun k_ => ((((((True ∧ some k_ ≠ (.slice Ao93 t598.length co93 : Value).ownBlock) ∧ some k_ ≠ (.slice Ao156 t601.length co156 : Value).ownBlock) ∧ some k_ ≠ (.slice Ao157 t605.length co157 : Value).ownBlock) ∧ some k_ ≠ (.slice Ao158 t615.length co158 : Value).ownBlock) ∧ some k_ ≠ (v631 : Value).ownBlock) ∧ some k_ ≠ (v635 : Value).ownBlock)) (n := t619.length) (c := co159) ?_).2.2; exact (qf3 HO622)); (case side4 => exact rn HO622); rintro e w' ⟨rfl, ⟨nd, rfl⟩⟩; (try exact zz); obtain ⟨Ao160, co160, eo160⟩ := Kd.R_slice HO632.out; subst eo160; obtain ⟨Ao161, co161, eo161⟩ := Kd.R_slice HO636.out; subst eo161) | (go_at_call 10; (with_reducible refine (laws_vSame.calls kj44 _ _ t629 _ _ t633 true _ ?side1 ?side2 ?side3 ?side4 A134.out).mono ?_); (case side1 => refine (Kd.R_reads' (e := 3) (base := w.heap.size) (ok := fun k_ => ((((((True ∧ some k_ ≠ (.slice Ao93 t598.length co93 : Value).ownBlock) ∧ some k_ ≠ (.slice Ao156 t601.length co156 : Value).ownBlock) ∧ some k_ ≠ (.slice Ao157 t605.length co157 : Value).ownBlock) ∧ some k_ ≠ (.slice Ao158 t615.length co158 : Value).ownBlock) ∧ some k_ ≠ (.slice Ao159 t619.length co159 : Value).ownBlock) ∧ some k_ ≠ (.slice Ao161 t633.length co161 : Value).ownBlock)) (n := t629.length) (c := co160) ?_).2.2; exact (qf3 HO632)); (case side2 => exact rn HO632); (case side3 => refine (Kd.R_reads' (e := 3) (base := w.heap.size) (ok := fun k_ => ((((((True ∧ some k_ ≠ (.slice Ao93 t598.length co93 : Value).ownBlock) ∧ some k_ ≠ (.slice Ao156 t601.length co156 : Value).ownBlock) ∧ some k_ ≠ (.slice Ao157 t605.length co157 : Value).ownBlock) ∧ some k_ ≠ (.slice Ao158 t615.length co158 : Value).ownBlock) ∧ some k_ ≠ (.slice Ao159 t619.length co159 : Value).ownBlock) ∧ some k_ ≠ (.slice Ao160 t629.length co160 : Value).ownBlock)) (n := t633.length) (c := co161) ?_).2.2; exact (qf3 HO636)); (case side4 => exact rn HO636); rintro e w' ⟨rfl, ⟨nd, rfl⟩⟩; (try exact zz); have hnb162 := NB657_647.out; have hnc162 := NB647_657.out; have hnb163 := NB657_662.out; have hnc163 := NB662_657.out; have hcz164_0 := bc BK657 0 (.int .i64 t653); have hcz164_1 := bc BK657 1 (.bool t654); have hcz164_2 := bc BK657 2 (.int .i64 t655); have hfz164_0 := blk_frozen BK657.out 0; have hfz164_1 := blk_frozen BK657.out 1; have hfz164_2 := blk_frozen BK657.out 2; have hnb165 := NB662_647.out; have hnc165 := NB647_662.out; have hcz166_0 := bc BK662 0 (.int .i64 0); have hcz166_1 := bc BK662 1 (.bool false); have hcz166_2 := bc BK662 2 (.int .i64 0); have hfz166_0 := blk_frozen BK662.out 0; have hfz166_1 := blk_frozen BK662.out 1; have hfz166_2 := blk_frozen BK662.out 2))))
                           go_meet
                           case rel => exact ⟨_, (false), (rs), H', ⟨by have := HJ9.out; have := HJ44.out; first | omega | exact Nat.le_refl _⟩, ⟨by (with_reducible repeat (first | apply Kd.R_alloc | apply Kd.R_drewN | apply Kd.R_drew)); exact Kd.R_mono (Kd.R_far (p := ⟨gb662, 2, none⟩) (Kd.R_far (p := ⟨gb662, 1, none⟩) (Kd.R_far (p := ⟨gb662, 0, none⟩) (Kd.R_types HO600.out BK662.out (by decide)) (fun _ hk => hk.2) (.int .i64 t658)) (fun _ hk => hk.2) (.bool t659)) (fun _ hk => hk.2) (.int .i64 t660)) (fun _ hk => ⟨hk.1.1.1.1.1.1.2, ⟨hk.1.1.1.1.2, hk.1.1.2⟩⟩)⟩, ⟨by (with_reducible repeat (first | apply Kd.R_alloc | apply Kd.R_drewN | apply Kd.R_drew)); exact Kd.R_mono (Kd.R_far (p := ⟨gb662, 2, none⟩) (Kd.R_far (p := ⟨gb662, 1, none⟩) (Kd.R_far (p := ⟨gb662, 0, none⟩) (Kd.R_types HO604.out BK662.out (by decide)) (fun _ hk => hk.2) (.int .i64 t658)) (fun _ hk => hk.2) (.bool t659)) (fun _ hk => hk.2) (.int .i64 t660)) (fun _ hk => ⟨hk.1.1.1.1.1.1.2, ⟨hk.1.1.1.1.2, hk.1.1.2⟩⟩)⟩, ⟨by (with_reducible repeat (first | apply Kd.R_alloc | apply Kd.R_drewN | apply Kd.R_drew)); exact Kd.R_mono (Kd.R_far (p := ⟨gb662, 2, none⟩) (Kd.R_far (p := ⟨gb662, 1, none⟩) (Kd.R_far (p := ⟨gb662, 0, none⟩) (Kd.R_types HO618.out BK662.out (by decide)) (fun _ hk => hk.2) (.int .i64 t658)) (fun _ hk => hk.2) (.bool t659)) (fun _ hk => hk.2) (.int .i64 t660)) (fun _ hk => ⟨hk.1.1.1.1.1.1.2, ⟨hk.1.1.1.1.1.2, hk.1.1.2⟩⟩)⟩, ⟨by (with_reducible repeat (first | apply Kd.R_alloc | apply Kd.R_drewN | apply Kd.R_drew)); exact Kd.R_mono (Kd.R_far (p := ⟨gb662, 2, none⟩) (Kd.R_far (p := ⟨gb662, 1, none⟩) (Kd.R_far (p := ⟨gb662, 0, none⟩) (Kd.R_types HO632.out BK662.out (by decide)) (fun _ hk => hk.2) (.int .i64 t658)) (fun _ hk => hk.2) (.bool t659)) (fun _ hk => hk.2) (.int .i64 t660)) (fun _ hk => ⟨hk.1.1.1.1.1.1.2, ⟨hk.1.1.1.1.1.2, hk.1.1.1.2⟩⟩)⟩, ⟨pf BK647⟩, ⟨pf BK657⟩, ⟨bw⟩⟩
                      ·rw [if_neg c140] at H
                       exact absurd (Option.some.inj H) (by rw [HRT.out]; decide)
                    ·rw [if_neg c138] at H
                     exact absurd (Option.some.inj H) (by rw [HRT.out]; decide)
                   ·rw [if_neg c137] at H
                    exact absurd (Option.some.inj H) (by rw [HRT.out]; decide)
                 ·replace c135 := Bool.eq_false_iff.mpr c135
                  subst c135
                  rw [if_neg (show ¬ (false = true) by decide)] at H
                  exact absurd (Option.some.inj H) (by rw [HRT.out]; decide)
               ·rw [if_neg c132] at H
                exact absurd (Option.some.inj H) (by rw [HRT.out]; decide)
             ·replace c130 := Bool.eq_false_iff.mpr c130
              subst c130
              rw [if_neg (show ¬ (false = true) by decide)] at H
              exact absurd (Option.some.inj H) (by rw [HRT.out]; decide)
           ·rw [if_neg c127] at H
            exact absurd (Option.some.inj H) (by rw [HRT.out]; decide)
         ·replace c125 := Bool.eq_false_iff.mpr c125
          subst c125
          rw [if_neg (show ¬ (false = true) by decide)] at H
          exact absurd (Option.some.inj H) (by rw [HRT.out]; decide)
       case rest =>
        clear HC91
        repeat (first|clear c1|clear c2|clear p2|clear c3|clear c4|clear c5|clear p5|clear q5|clear hx5|clear c6|clear p6|clear c11|clear c12|clear c13|clear c14|clear c15|clear c16|clear c17|clear c17b0|clear c17b1|clear c17b2|clear c19|clear c20|clear c20b0|clear c20b1|clear c20b2|clear c21|clear c21b0|clear c21b1|clear c24|clear c24b0|clear c24b1|clear c24b2|clear c25|clear c26|clear c33|clear c44|clear c46|clear c48|clear c49|clear c49b0|clear c49b1|clear c49b2|clear c51|clear c51b0|clear c52|clear c52b0|clear c53|clear c53b0|clear c55|clear c58|clear c58b0|clear p58|clear q58|clear hx58|clear p59|clear q59|clear hx59|clear c60|clear c61|clear c61b0|clear c61b1|clear c64|clear c64b0|clear p64|clear c65|clear c65b0|clear c66|clear c66b0|clear c68|clear c116|clear c120|clear c121|clear c123|clear c123b0|clear c123b1|clear c123b2|clear c125|clear c126|clear c126b0|clear c126b1|clear c126b2|clear c127|clear c127b0|clear c127b1|clear c128|clear c128b0|clear c128b1|clear c128b2|clear c130|clear c131|clear c131b0|clear c131b1|clear c131b2|clear c132|clear c132b0|clear c132b1|clear c133|clear c133b0|clear c133b1|clear c133b2|clear c135|clear c136|clear c136b0|clear c136b1|clear c136b2|clear c137|clear c137b0|clear c137b1|clear c138|clear c138b0|clear c138b1|clear c139|clear c139b0|clear c139b1|clear c139b2|clear c140|clear c140b0|clear c140b1|clear c141|clear c141b0|clear c141b1|clear c141b2|clear c142|clear c142b0|clear c143|clear c143b0|clear c143b1|clear c143b2|clear c144|clear c151|clear c152|clear c154|clear c162|clear c163|clear c165|clear hcz109_0|clear hcz109_1|clear hcz109_2|clear hcz111_0|clear hcz111_1|clear hcz111_2|clear hcz117_0|clear hcz117_1|clear hcz117_2|clear hcz122_0|clear hcz122_1|clear hcz122_2|clear hcz153_0|clear hcz153_1|clear hcz153_2|clear hcz155_0|clear hcz155_1|clear hcz155_2|clear hcz164_0|clear hcz164_1|clear hcz164_2|clear hcz166_0|clear hcz166_1|clear hcz166_2|clear hcz57_0|clear hcz57_1|clear hcz57_2|clear hfz109_0|clear hfz109_1|clear hfz109_2|clear hfz111_0|clear hfz111_1|clear hfz111_2|clear hfz117_0|clear hfz117_1|clear hfz117_2|clear hfz122_0|clear hfz122_1|clear hfz122_2|clear hfz153_0|clear hfz153_1|clear hfz153_2|clear hfz155_0|clear hfz155_1|clear hfz155_2|clear hfz164_0|clear hfz164_1|clear hfz164_2|clear hfz166_0|clear hfz166_1|clear hfz166_2|clear hfz57_0|clear hfz57_1|clear hfz57_2|clear hx588_0|clear hx588_1|clear hx588_2|clear hx595_0|clear p588|clear p595|clear q588|clear q595)
        obtain ⟨kq, x422_90, rfl, HA, HJ90, HO_23, HO_24, HO_34, HO_44, BK647, BK657, HB⟩ := hcut
        cases kq with
        | zero => exact absurd HA.out (by simp [laws_FnSignalsReach.j4])
        | succ kj90 =>
         have H := HA.out
         clear HA
         simp only [laws_FnSignalsReach.j4] at H
         by_cases c167 : x422_90 = true
         ·subst c167
          rw [if_pos rfl] at H
          exact absurd (Option.some.inj H) (by rw [HRT.out]; decide)
         ·replace c167 := Bool.eq_false_iff.mpr c167
          subst c167
          rw [if_neg (show ¬ (false = true) by decide)] at H
          have HC168 := Aside0.mk H
          clear H
          go_upto_if 423 with (fail)
          repeat (go_quiet (fail); go_upto_if 423 with (fail))
          go_cut [364, 365, 366, 367, 368, 369, 370, 373, 374, 375, 376, 377, 378, 379, 380, 381, 384, 385, 386, 389, 390, 391, 392, 393, 394, 395, 396, 399, 400, 401, 402, 403, 404, 405, 406, 409, 410, 411, 412, 413, 414, 415, 416, 417, 418, 419, 420, 421, 422, 423] from 9999 (fun _ _ _ _ _ _ _ _ _ _ _ _ _ _ _ _ _ _ _ _ _ _ _ _ _ _ _ _ _ _ _ _ _ _ _ _ _ _ _ _ _ _ _ _ _ _ _ _ _ _ wc => ∃ (kq : Nat), Aside0 (laws_FnSignalsReach.j6 kq t613 t614 t615 t616 t623 t627 t628 t629 t630 t637 t638 t639 t640 t648 t649 t652 t656 t644 t645 t646 t653 t654 t655 = some r) ∧ Aside0 (kq ≤ kj90) ∧ Aside0 (Kd.R (Kd.int .i64) 3 wc w.heap.size (fun k_ => some k_ ≠ (v631 : Value).ownBlock) v617 t615) ∧ Aside0 (Kd.R (Kd.int .i64) 3 wc w.heap.size (fun k_ => some k_ ≠ (v617 : Value).ownBlock) v631 t629) ∧ Aside0 (wc.heap[gb647]? = some (.cells #[.int .i64 t644, .bool t645, .int .i64 t646] 36 (0, 0))) ∧ Aside0 (wc.heap[gb657]? = some (.cells #[.int .i64 t653, .bool t654, .int .i64 t655] 36 (0, 0))) ∧ Aside0 (Below w.heap.size w wc))
          case first => as_aux_lemma =>
           have H := HC168.out
           clear HC168
           by_cases c169 : t602 = true
           ·subst c169
            rw [if_pos rfl] at H
            by_cases c170 : (t601.length : Int) = t597
            ·rw [if_pos c170] at H
             have c170b0 : ((t601.length : Int) == t597) = true := beq_iff_eq.mpr c170
             have c170b1 : ((t601.length : Int) != t597) = false := bne_eq_false_iff_eq.mpr c170
             clear c170
             (first | rw [c170b0] | rw [@decide_eq_true _ _ (of_decide_eq_true c170b1)] | rw [@decide_eq_false _ _ (of_decide_eq_false c170b1)] | (simp only [i64_w, i32_w]; rw [c170b0]) | skip)
             replace H := Option.bind_eq_some_iff.mp H
             obtain ⟨t666, A1710, H⟩ := H
             (try dsimp only at H)
             have A171 := Aside0.mk A1710
             clear A1710
             by_cases c172 : t666 = t609
             ·rw [if_pos c172] at H
              have c172b0 : (t666 == t609) = true := beq_iff_eq.mpr c172
              have c172b1 : (t666 != t609) = false := bne_eq_false_iff_eq.mpr c172
              clear c172
              have H' := Aside0.mk H
              clear H
              obtain ⟨Ao173, co173, eo173⟩ := Kd.R_slice HO_24.out
              subst eo173
              iterate 4 ((try go_wp2_with (first | (go_at_call 37; (with_reducible refine (laws_vMost.calls kj90 _ _ t601 t666 _ ?side1 ?side2 A171.out).mono ?_); (case side1 => exact rr HO_24); (case side2 => exact rn HO_24); rintro e w' ⟨rfl, ⟨nd, rfl⟩⟩; (try exact zz)))); (try go_quiet (first | (go_at_call 37; (with_reducible refine (laws_vMost.calls kj90 _ _ t601 t666 _ ?side1 ?side2 A171.out).mono ?_); (case side1 => exact rr HO_24); (case side2 => exact rn HO_24); rintro e w' ⟨rfl, ⟨nd, rfl⟩⟩; (try exact zz)))))
              go_loopg [436] kj90 (fun kq v436 w' => ∃ (x436_4 : Int), v436 = .int .i64 x436_4 ∧ Aside0 (laws_FnSignalsReach.l2 kq t598 t601 t613 t614 t615 t616 t623 t627 t628 t629 t630 t637 t638 t639 t640 t648 t649 t652 t656 t601 (t601.length : Int) x436_4 t644 t645 t646 t653 t654 t655 = some r) ∧ Aside0 (kq ≤ kj90) ∧ Aside0 (Kd.R (Kd.int .i64) 3 w' w.heap.size (fun k_ => some k_ ≠ ((.slice Ao173 t601.length co173) : Value).ownBlock ∧ some k_ ≠ (v617 : Value).ownBlock ∧ some k_ ≠ (v631 : Value).ownBlock ∧ some k_ ≠ ((.slice Ao173 t601.length co173) : Value).ownBlock) (.slice Ao93 t598.length co93) t598) ∧ Aside0 (Kd.R (Kd.int .i64) 3 w' w.heap.size (fun k_ => some k_ ≠ ((.slice Ao93 t598.length co93) : Value).ownBlock ∧ some k_ ≠ (v617 : Value).ownBlock ∧ some k_ ≠ (v631 : Value).ownBlock) (.slice Ao173 t601.length co173) t601) ∧ Aside0 (Kd.R (Kd.int .i64) 3 w' w.heap.size (fun k_ => some k_ ≠ ((.slice Ao93 t598.length co93) : Value).ownBlock ∧ some k_ ≠ ((.slice Ao173 t601.length co173) : Value).ownBlock ∧ some k_ ≠ (v631 : Value).ownBlock ∧ some k_ ≠ ((.slice Ao173 t601.length co173) : Value).ownBlock) v617 t615) ∧ Aside0 (Kd.R (Kd.int .i64) 3 w' w.heap.size (fun k_ => some k_ ≠ ((.slice Ao93 t598.length co93) : Value).ownBlock ∧ some k_ ≠ ((.slice Ao173 t601.length co173) : Value).ownBlock ∧ some k_ ≠ (v617 : Value).ownBlock ∧ some k_ ≠ ((.slice Ao173 t601.length co173) : Value).ownBlock) v631 t629) ∧ Aside0 (Kd.R (Kd.int .i64) 3 w' w.heap.size (fun k_ => some k_ ≠ ((.slice Ao93 t598.length co93) : Value).ownBlock ∧ some k_ ≠ (v617 : Value).ownBlock ∧ some k_ ≠ (v631 : Value).ownBlock) (.slice Ao173 t601.length co173) t601) ∧ Aside0 (w'.heap[gb647]? = some (.cells #[.int .i64 t644, .bool t645, .int .i64 t646] 36 (0, 0))) ∧ Aside0 (w'.heap[gb657]? = some (.cells #[.int .i64 t653, .bool t654, .int .i64 t655] 36 (0, 0))) ∧ Aside0 (Below w.heap.size w w'))
              case atStart => exact ⟨(0), (rs), H', ⟨Nat.le_refl _⟩, ⟨by (with_reducible repeat (first | apply Kd.R_alloc | apply Kd.R_drewN | apply Kd.R_drew)); exact Kd.R_mono HO_23.out (fun _ hk => ⟨hk.1, ⟨hk.2.1, ⟨hk.2.2, hk.1⟩⟩⟩)⟩, ⟨pr HO_24⟩, ⟨by (with_reducible repeat (first | apply Kd.R_alloc | apply Kd.R_drewN | apply Kd.R_drew)); exact Kd.R_mono HO_34.out (fun _ hk => ⟨hk.1, ⟨hk.2.1, ⟨hk.2.2, hk.2.1⟩⟩⟩)⟩, ⟨by (with_reducible repeat (first | apply Kd.R_alloc | apply Kd.R_drewN | apply Kd.R_drew)); exact Kd.R_mono HO_44.out (fun _ hk => ⟨hk.1, ⟨hk.2.1, ⟨hk.2.2, hk.2.1⟩⟩⟩)⟩, ⟨pr HO_24⟩, ⟨pk BK647⟩, ⟨pk BK657⟩, ⟨bw⟩⟩
              case round =>
               clear H'
               repeat (first|clear c1|clear c2|clear p2|clear c3|clear c4|clear c5|clear p5|clear q5|clear hx5|clear c6|clear p6|clear c11|clear c12|clear c13|clear c14|clear c15|clear c16|clear c17|clear c17b0|clear c17b1|clear c17b2|clear c19|clear c20|clear c20b0|clear c20b1|clear c20b2|clear c21|clear c21b0|clear c21b1|clear c24|clear c24b0|clear c24b1|clear c24b2|clear c25|clear c26|clear c33|clear c44|clear c46|clear c48|clear c49|clear c49b0|clear c49b1|clear c49b2|clear c51|clear c51b0|clear c52|clear c52b0|clear c53|clear c53b0|clear c55|clear c58|clear c58b0|clear p58|clear q58|clear hx58|clear p59|clear q59|clear hx59|clear c60|clear c61|clear c61b0|clear c61b1|clear c64|clear c64b0|clear p64|clear c65|clear c65b0|clear c66|clear c66b0|clear c68|clear c116|clear c120|clear c121|clear c123|clear c123b0|clear c123b1|clear c123b2|clear c125|clear c126|clear c126b0|clear c126b1|clear c126b2|clear c127|clear c127b0|clear c127b1|clear c128|clear c128b0|clear c128b1|clear c128b2|clear c130|clear c131|clear c131b0|clear c131b1|clear c131b2|clear c132|clear c132b0|clear c132b1|clear c133|clear c133b0|clear c133b1|clear c133b2|clear c135|clear c136|clear c136b0|clear c136b1|clear c136b2|clear c137|clear c137b0|clear c137b1|clear c138|clear c138b0|clear c138b1|clear c139|clear c139b0|clear c139b1|clear c139b2|clear c140|clear c140b0|clear c140b1|clear c141|clear c141b0|clear c141b1|clear c141b2|clear c142|clear c142b0|clear c143|clear c143b0|clear c143b1|clear c143b2|clear c144|clear c151|clear c152|clear c154|clear c162|clear c163|clear c165|clear c167|clear c169|clear c170|clear c170b0|clear c170b1|clear c172|clear c172b0|clear c172b1|clear hcz109_0|clear hcz109_1|clear hcz109_2|clear hcz111_0|clear hcz111_1|clear hcz111_2|clear hcz117_0|clear hcz117_1|clear hcz117_2|clear hcz122_0|clear hcz122_1|clear hcz122_2|clear hcz153_0|clear hcz153_1|clear hcz153_2|clear hcz155_0|clear hcz155_1|clear hcz155_2|clear hcz164_0|clear hcz164_1|clear hcz164_2|clear hcz166_0|clear hcz166_1|clear hcz166_2|clear hcz57_0|clear hcz57_1|clear hcz57_2|clear hfz109_0|clear hfz109_1|clear hfz109_2|clear hfz111_0|clear hfz111_1|clear hfz111_2|clear hfz117_0|clear hfz117_1|clear hfz117_2|clear hfz122_0|clear hfz122_1|clear hfz122_2|clear hfz153_0|clear hfz153_1|clear hfz153_2|clear hfz155_0|clear hfz155_1|clear hfz155_2|clear hfz164_0|clear hfz164_1|clear hfz164_2|clear hfz166_0|clear hfz166_1|clear hfz166_2|clear hfz57_0|clear hfz57_1|clear hfz57_2|clear hx588_0|clear hx588_1|clear hx588_2|clear hx595_0|clear p588|clear p595|clear q588|clear q595)
               obtain ⟨x436_4, rfl, HA, HK4, HO_23, HO_24, HO_34, HO_44, HO_434, BK647, BK657, HB⟩ := hrel
               cases gk with
               | zero => exact absurd HA.out (by simp [laws_FnSignalsReach.l2])
               | succ k4 =>
                have H := HA.out
                clear HA
                simp only [laws_FnSignalsReach.l2] at H
                by_cases c174 : x436_4 < (t601.length : Int)
                ·rw [if_pos c174] at H
                 have c174b0 : decide (x436_4 < (t601.length : Int)) = true := decide_eq_true c174
                 clear c174
                 by_cases c175 : 0 ≤ x436_4
                 ·rw [if_pos c175] at H
                  have c175b0 : decide (0 ≤ x436_4) = true := decide_eq_true c175
                  clear c175
                  by_cases c176 : x436_4 < (t601.length : Int)
                  ·rw [if_pos c176] at H
                   have c176b0 : decide (x436_4 < (t601.length : Int)) = true := decide_eq_true c176
                   clear c176
                   by_cases c177 : (rd t601 x436_4) < 0
                   ·rw [if_pos c177] at H
                    exact absurd (Option.some.inj H) (by rw [HRT.out]; decide)
                   ·rw [if_neg c177] at H
                    have c177b0 : decide ((rd t601 x436_4) < 0) = false := decide_eq_false c177
                    clear c177
                    replace H := Option.bind_eq_some_iff.mp H
                    obtain ⟨t668, A1780, H⟩ := H
                    (try dsimp only at H)
                    have A178 := Aside0.mk A1780
                    clear A1780
                    by_cases c179 : (((rd t601 x436_4) == 0) != t668) = true
                    ·rw [if_pos c179] at H
                     exact absurd (Option.some.inj H) (by rw [HRT.out]; decide)
                    ·rw [if_neg c179] at H
                     have c179b0 : (((rd t601 x436_4) == 0) != t668) = false := by simpa using c179
                     (try (have c179b1 : decide (((rd t601 x436_4) == 0) = t668) = true := by simpa using c179))
                     (try (have c179b2 : (((rd t601 x436_4) == 0) == t668) = true := by simpa using c179))
                     clear c179
                     by_cases c180 : x436_4 > 0
                     ·rw [if_pos c180] at H
                      have c180b0 : decide (0 < x436_4) = true := decide_eq_true c180
                      clear c180
                      obtain ⟨ji181, hji181⟩ : ∃ j_ : Int, (wrap64 (x436_4 - 1)) = j_ := ⟨_, rfl⟩
                      replace H : (if 0 ≤ (ji181) then (if (ji181) < (t601.length : Int) then (if (wrap64 ((rd t601 x436_4) - (rd t601 (ji181)))) > 1 then (some false) else (if (wrap64 ((rd t601 (ji181)) - (rd t601 x436_4))) > 1 then (some false) else (laws_FnSignalsReach.l2 k4 t598 t601 t613 t614 t615 t616 t623 t627 t628 t629 t630 t637 t638 t639 t640 t648 t649 t652 t656 t601 (t601.length : Int) (wrap64 (x436_4 + 1)) t644 t645 t646 t653 t654 t655))) else (none)) else (none)) = some r := by first | (rw [hji181] at H; exact H) | (simp only [hji181] at H ⊢; exact H)
                      (try rw [hji181] at A178)
                      have hji181w : (IntKind.i64.wrap (x436_4 - 1)) = ji181 := (i64_w _).trans hji181
                      by_cases c182 : 0 ≤ (ji181)
                      ·rw [if_pos c182] at H
                       have c182b0 : decide (0 ≤ (ji181)) = true := decide_eq_true c182
                       clear c182
                       by_cases c183 : (ji181) < (t601.length : Int)
                       ·rw [if_pos c183] at H
                        have c183b0 : decide ((ji181) < (t601.length : Int)) = true := decide_eq_true c183
                        clear c183
                        by_cases c184 : (wrap64 ((rd t601 x436_4) - (rd t601 (ji181)))) > 1
                        ·rw [if_pos c184] at H
                         exact absurd (Option.some.inj H) (by rw [HRT.out]; decide)
                        ·rw [if_neg c184] at H
                         have c184b0 : decide (1 < (wrap64 ((rd t601 x436_4) - (rd t601 (ji181))))) = false := decide_eq_false c184
                         clear c184
                         by_cases c185 : (wrap64 ((rd t601 (ji181)) - (rd t601 x436_4))) > 1
                         ·rw [if_pos c185] at H
                          exact absurd (Option.some.inj H) (by rw [HRT.out]; decide)
                         ·rw [if_neg c185] at H
                          have c185b0 : decide (1 < (wrap64 ((rd t601 (ji181)) - (rd t601 x436_4)))) = false := decide_eq_false c185
                          clear c185
                          have H' := Aside0.mk H
                          clear H
                          have p667 : 0 ≤ (x436_4 : Int) := of_decide_eq_true asm
                          have q667 : x436_4 < (t601.length : Int) := of_decide_eq_true asm
                          obtain ⟨ad667, e667, hx667_0⟩ := Kd.at_int (Kd.R_reads' HO_434.out).2.2 x436_4 p667 q667
                          cases e667
                          replace p667 := eq_true p667
                          replace q667 := eq_true q667
                          iterate 4 ((try go_wp2_with (first | (go_at_call 14; (with_reducible refine (laws_vHas.calls k4 _ _ t598 x436_4 t668 _ ?side1 ?side2 A178.out).mono ?_); (case side1 => exact rr HO_23); (case side2 => exact rn HO_23); rintro e w' ⟨rfl, ⟨nd, rfl⟩⟩; (try exact zz); have p669 : 0 ≤ ((ji181) : Int) := of_decide_eq_true asm; have q669 : (ji181) < (t601.length : Int) := of_decide_eq_true asm; obtain ⟨ad669, e669, hx669_0⟩ := Kd.at_int (Kd.R_reads' HO_24.out).2.2 (ji181) p669 q669; obtain rfl : ad667 = ad669 := (by injection e669); replace p669 := eq_true p669; replace q669 := eq_true q669; have p670 : 0 ≤ ((ji181) : Int) := of_decide_eq_true asm; have q670 : (ji181) < (t601.length : Int) := of_decide_eq_true asm; obtain ⟨ad670, e670, hx670_0⟩ := Kd.at_int (Kd.R_reads' HO_24.out).2.2 (ji181) p670 q670; obtain rfl : ad667 = ad670 := (by injection e670); replace p670 := eq_true p670; replace q670 := eq_true q670))); (try go_quiet (first | (go_at_call 14; (with_reducible refine (laws_vHas.calls k4 _ _ t598 x436_4 t668 _ ?side1 ?side2 A178.out).mono ?_); (case side1 => exact rr HO_23); (case side2 => exact rn HO_23); rintro e w' ⟨rfl, ⟨nd, rfl⟩⟩; (try exact zz); have p669 : 0 ≤ ((ji181) : Int) := of_decide_eq_true asm; have q669 : (ji181) < (t601.length : Int) := of_decide_eq_true asm; obtain ⟨ad669, e669, hx669_0⟩ := Kd.at_int (Kd.R_reads' HO_24.out).2.2 (ji181) p669 q669; obtain rfl : ad667 = ad669 := (by injection e669); replace p669 := eq_true p669; replace q669 := eq_true q669; have p670 : 0 ≤ ((ji181) : Int) := of_decide_eq_true asm; have q670 : (ji181) < (t601.length : Int) := of_decide_eq_true asm; obtain ⟨ad670, e670, hx670_0⟩ := Kd.at_int (Kd.R_reads' HO_24.out).2.2 (ji181) p670 q670; obtain rfl : ad667 = ad670 := (by injection e670); replace p670 := eq_true p670; replace q670 := eq_true q670))))
                          go_roundg k4
                          case measure => have := HJ9.out; have := HJ44.out; have := HJ90.out; have := HK4.out; omega
                          case rel => exact ⟨(wrap64 (x436_4 + 1)), (rs), H', ⟨by have := HJ9.out; have := HJ44.out; have := HJ90.out; have := HK4.out; omega⟩, ⟨pr HO_23⟩, ⟨pr HO_24⟩, ⟨pr HO_34⟩, ⟨pr HO_44⟩, ⟨pr HO_434⟩, ⟨pk BK647⟩, ⟨pk BK657⟩, ⟨bw⟩⟩
                       ·rw [if_neg c183] at H
                        exact absurd H (by simp)
                      ·rw [if_neg c182] at H
                       exact absurd H (by simp)
                     ·rw [if_neg c180] at H
                      have c180b0 : decide (0 < x436_4) = false := decide_eq_false c180
                      clear c180
                      have H' := Aside0.mk H
                      clear H
                      have p667 : 0 ≤ (x436_4 : Int) := of_decide_eq_true asm
                      have q667 : x436_4 < (t601.length : Int) := of_decide_eq_true asm
                      obtain ⟨ad667, e667, hx667_0⟩ := Kd.at_int (Kd.R_reads' HO_434.out).2.2 x436_4 p667 q667
                      cases e667
                      replace p667 := eq_true p667
                      replace q667 := eq_true q667
                      iterate 4 ((try go_wp2_with (first | (go_at_call 14; (with_reducible refine (laws_vHas.calls k4 _ _ t598 x436_4 t668 _ ?side1 ?side2 A178.out).mono ?_); (case side1 => exact rr HO_23); (case side2 => exact rn HO_23); rintro e w' ⟨rfl, ⟨nd, rfl⟩⟩; (try exact zz)))); (try go_quiet (first | (go_at_call 14; (with_reducible refine (laws_vHas.calls k4 _ _ t598 x436_4 t668 _ ?side1 ?side2 A178.out).mono ?_); (case side1 => exact rr HO_23); (case side2 => exact rn HO_23); rintro e w' ⟨rfl, ⟨nd, rfl⟩⟩; (try exact zz)))))
                      go_roundg k4
                      case measure => have := HJ9.out; have := HJ44.out; have := HJ90.out; have := HK4.out; omega
                      case rel => exact ⟨(wrap64 (x436_4 + 1)), (rs), H', ⟨by have := HJ9.out; have := HJ44.out; have := HJ90.out; have := HK4.out; omega⟩, ⟨pr HO_23⟩, ⟨pr HO_24⟩, ⟨pr HO_34⟩, ⟨pr HO_44⟩, ⟨pr HO_434⟩, ⟨pk BK647⟩, ⟨pk BK657⟩, ⟨bw⟩⟩
                  ·rw [if_neg c176] at H
                   exact absurd H (by simp)
                 ·rw [if_neg c175] at H
                  exact absurd H (by simp)
                ·rw [if_neg c174] at H
                 have c174b0 : decide (x436_4 < (t601.length : Int)) = false := decide_eq_false c174
                 clear c174
                 have H' := Aside0.mk H
                 clear H
                 go_wp2
                 repeat (go_quiet (fail); try go_wp2)
                 go_meet
                 case rel => exact ⟨_, H', ⟨by have := HJ9.out; have := HJ44.out; have := HJ90.out; have := HK4.out; first | omega | exact Nat.le_refl _⟩, ⟨by (with_reducible repeat (first | apply Kd.R_alloc | apply Kd.R_drewN | apply Kd.R_drew)); exact Kd.R_mono HO_34.out (fun _ hk => hk.2.2.1)⟩, ⟨by (with_reducible repeat (first | apply Kd.R_alloc | apply Kd.R_drewN | apply Kd.R_drew)); exact Kd.R_mono HO_44.out (fun _ hk => hk.2.2.1)⟩, ⟨pk BK647⟩, ⟨pk BK657⟩, ⟨bw⟩⟩
             ·rw [if_neg c172] at H
              exact absurd (Option.some.inj H) (by rw [HRT.out]; decide)
            ·rw [if_neg c170] at H
             exact absurd (Option.some.inj H) (by rw [HRT.out]; decide)
           ·replace c169 := Bool.eq_false_iff.mpr c169
            subst c169
            rw [if_neg (show ¬ (false = true) by decide)] at H
            have H' := Aside0.mk H
            clear H
            go_wp2
            repeat (go_quiet (fail); try go_wp2)
            go_meet
            case rel => exact ⟨_, H', ⟨by have := HJ9.out; have := HJ44.out; have := HJ90.out; first | omega | exact Nat.le_refl _⟩, ⟨by (with_reducible repeat (first | apply Kd.R_alloc | apply Kd.R_drewN | apply Kd.R_drew)); exact Kd.R_mono HO_34.out (fun _ hk => hk.2.2)⟩, ⟨by (with_reducible repeat (first | apply Kd.R_alloc | apply Kd.R_drewN | apply Kd.R_drew)); exact Kd.R_mono HO_44.out (fun _ hk => hk.2.2)⟩, ⟨pk BK647⟩, ⟨pk BK657⟩, ⟨bw⟩⟩
          case rest =>
           clear HC168
           repeat (first|clear c1|clear c2|clear p2|clear c3|clear c4|clear c5|clear p5|clear q5|clear hx5|clear c6|clear p6|clear q6|clear hx6|clear c11|clear c12|clear c13|clear c14|clear c15|clear c16|clear c17|clear c17b0|clear c17b1|clear c17b2|clear c18|clear c19|clear c20|clear c20b0|clear c20b1|clear c20b2|clear c21|clear c21b0|clear c21b1|clear c24|clear c24b0|clear c24b1|clear c24b2|clear c25|clear c26|clear c33|clear c44|clear c46|clear c48|clear c49|clear c49b0|clear c49b1|clear c49b2|clear c51|clear c51b0|clear c52|clear c52b0|clear c53|clear c53b0|clear c55|clear c58|clear c58b0|clear p58|clear q58|clear hx58|clear p59|clear q59|clear hx59|clear c60|clear c61|clear c61b0|clear c61b1|clear c64|clear c64b0|clear p64|clear c65|clear c65b0|clear c66|clear c66b0|clear p66|clear q66|clear hx66|clear p67|clear q67|clear hx67|clear c68|clear c116|clear c120|clear c121|clear c123|clear c123b0|clear c123b1|clear c123b2|clear c125|clear c126|clear c126b0|clear c126b1|clear c126b2|clear c127|clear c127b0|clear c127b1|clear c128|clear c128b0|clear c128b1|clear c128b2|clear c130|clear c131|clear c131b0|clear c131b1|clear c131b2|clear c132|clear c132b0|clear c132b1|clear c133|clear c133b0|clear c133b1|clear c133b2|clear c135|clear c136|clear c136b0|clear c136b1|clear c136b2|clear c137|clear c137b0|clear c137b1|clear c138|clear c138b0|clear c138b1|clear c139|clear c139b0|clear c139b1|clear c139b2|clear c140|clear c140b0|clear c140b1|clear c141|clear c141b0|clear c141b1|clear c141b2|clear c142|clear c142b0|clear c143|clear c143b0|clear c143b1|clear c143b2|clear c144|clear c151|clear c152|clear c154|clear c162|clear c163|clear c165|clear c167|clear c169|clear c170|clear c170b0|clear c170b1|clear c172|clear c172b0|clear c172b1|clear c174|clear c174b0|clear c175|clear c175b0|clear c176|clear c176b0|clear c177|clear c177b0|clear c179|clear c179b0|clear c179b1|clear c179b2|clear c180|clear c180b0|clear c182|clear c182b0|clear c183|clear c183b0|clear c184|clear c184b0|clear c185|clear c185b0|clear hcz109_0|clear hcz109_1|clear hcz109_2|clear hcz111_0|clear hcz111_1|clear hcz111_2|clear hcz117_0|clear hcz117_1|clear hcz117_2|clear hcz122_0|clear hcz122_1|clear hcz122_2|clear hcz153_0|clear hcz153_1|clear hcz153_2|clear hcz155_0|clear hcz155_1|clear hcz155_2|clear hcz164_0|clear hcz164_1|clear hcz164_2|clear hcz166_0|clear hcz166_1|clear hcz166_2|clear hcz57_0|clear hcz57_1|clear hcz57_2|clear hfz109_0|clear hfz109_1|clear hfz109_2|clear hfz111_0|clear hfz111_1|clear hfz111_2|clear hfz117_0|clear hfz117_1|clear hfz117_2|clear hfz122_0|clear hfz122_1|clear hfz122_2|clear hfz153_0|clear hfz153_1|clear hfz153_2|clear hfz155_0|clear hfz155_1|clear hfz155_2|clear hfz164_0|clear hfz164_1|clear hfz164_2|clear hfz166_0|clear hfz166_1|clear hfz166_2|clear hfz57_0|clear hfz57_1|clear hfz57_2|clear hx588_0|clear hx588_1|clear hx588_2|clear hx595_0|clear hx667_0|clear hx669_0|clear hx670_0|clear p588|clear p595|clear p667|clear p669|clear p670|clear q588|clear q595|clear q667|clear q669|clear q670)
           obtain ⟨kq, HA, HJ167, HO_34, HO_44, BK647, BK657, HB⟩ := hcut
           cases kq with
           | zero => exact absurd HA.out (by simp [laws_FnSignalsReach.j6])
           | succ kj167 =>
            have H := HA.out
            clear HA
            simp only [laws_FnSignalsReach.j6] at H
            have HC186 := Aside0.mk H
            clear H
            go_upto_if 476 with (fail)
            repeat (go_quiet (fail); go_upto_if 476 with (fail))
            go_cut [417, 418, 419, 420, 421, 422, 423, 427, 428, 432, 433, 442, 443, 445, 448, 449, 450, 451, 453, 454, 462, 463, 464, 465, 466, 467, 468, 469, 470, 471, 472, 473, 474, 475, 476] from 9999 (fun _ _ _ _ _ _ _ _ _ _ _ _ _ _ _ _ _ _ _ _ _ _ _ _ _ _ _ _ _ _ _ _ _ _ _ wc => ∃ (kq : Nat), Aside0 (laws_FnSignalsReach.j7 kq t627 t628 t629 t630 t637 t638 t639 t640 t648 t649 t652 t656 t644 t645 t646 t653 t654 t655 = some r) ∧ Aside0 (kq ≤ kj167) ∧ Aside0 (Kd.R (Kd.int .i64) 3 wc w.heap.size (fun _ => True) v631 t629) ∧ Aside0 (wc.heap[gb647]? = some (.cells #[.int .i64 t644, .bool t645, .int .i64 t646] 36 (0, 0))) ∧ Aside0 (wc.heap[gb657]? = some (.cells #[.int .i64 t653, .bool t654, .int .i64 t655] 36 (0, 0))) ∧ Aside0 (Below w.heap.size w wc))
            case first => as_aux_lemma =>
             have H := HC186.out
             clear HC186
             by_cases c187 : t616 = true
             ·subst c187
              rw [if_pos rfl] at H
              replace H := Option.bind_eq_some_iff.mp H
              obtain ⟨⟨t671, t672⟩, A1880, H⟩ := H
              (try dsimp only at H)
              have A188 := Aside0.mk A1880
              clear A1880
              by_cases c189 : (t615.length : Int) = t614
              ·rw [if_pos c189] at H
               have c189b0 : ((t615.length : Int) == t614) = true := beq_iff_eq.mpr c189
               have c189b1 : ((t615.length : Int) != t614) = false := bne_eq_false_iff_eq.mpr c189
               clear c189
               (first | rw [c189b0] | rw [@decide_eq_true _ _ (of_decide_eq_true c189b1)] | rw [@decide_eq_false _ _ (of_decide_eq_false c189b1)] | (simp only [i64_w, i32_w]; rw [c189b0]) | skip)
               by_cases c190 : t672 = true
               ·subst c190
                rw [if_pos rfl] at H
                by_cases c191 : t671 = t623
                ·rw [if_pos c191] at H
                 have c191b0 : (t671 == t623) = true := beq_iff_eq.mpr c191
                 have c191b1 : (t671 != t623) = false := bne_eq_false_iff_eq.mpr c191
                 clear c191
                 have H' := Aside0.mk H
                 clear H
                 obtain ⟨Ao192, co192, eo192⟩ := Kd.R_slice HO_34.out
                 subst eo192
                 iterate 4 ((try go_wp2_with (first | (go_at_call 18; (with_reducible refine (impl_TimeAllKnow.calls kj167 t613 _ _ t615 t671 true _ ?side1 ?side2 A188.out).mono ?_); (case side1 => exact rr HO_34); (case side2 => exact rn HO_34); rintro e w193 ⟨rfl, hb⟩; replace HO_34 := rl HO_34 hb; replace HO_44 := rl HO_44 hb; replace BK647 := nk BK647 hb; replace BK657 := nk BK657 hb; replace HB := bs hb; (try clear hb)))); (try go_quiet (fail)))
                 go_meet
                 case rel => exact ⟨_, H', ⟨by have := HJ9.out; have := HJ44.out; have := HJ90.out; have := HJ167.out; first | omega | exact Nat.le_refl _⟩, ⟨by (with_reducible repeat (first | apply Kd.R_alloc | apply Kd.R_drewN | apply Kd.R_drew)); exact Kd.R_mono HO_44.out (fun _ hk => trivial)⟩, ⟨pk BK647⟩, ⟨pk BK657⟩, ⟨bw⟩⟩
                ·rw [if_neg c191] at H
                 exact absurd (Option.some.inj H) (by rw [HRT.out]; decide)
               ·replace c190 := Bool.eq_false_iff.mpr c190
                subst c190
                rw [if_neg (show ¬ (false = true) by decide)] at H
                exact absurd (Option.some.inj H) (by rw [HRT.out]; decide)
              ·rw [if_neg c189] at H
               exact absurd (Option.some.inj H) (by rw [HRT.out]; decide)
             ·replace c187 := Bool.eq_false_iff.mpr c187
              subst c187
              rw [if_neg (show ¬ (false = true) by decide)] at H
              have H' := Aside0.mk H
              clear H
              go_wp2
              repeat (go_quiet (fail); try go_wp2)
              go_meet
              case rel => exact ⟨_, H', ⟨by have := HJ9.out; have := HJ44.out; have := HJ90.out; have := HJ167.out; first | omega | exact Nat.le_refl _⟩, ⟨by (with_reducible repeat (first | apply Kd.R_alloc | apply Kd.R_drewN | apply Kd.R_drew)); exact Kd.R_mono HO_44.out (fun _ hk => trivial)⟩, ⟨pk BK647⟩, ⟨pk BK657⟩, ⟨bw⟩⟩
            case rest =>
             clear HC186
             repeat (first|clear c1|clear c2|clear p2|clear c3|clear c4|clear c5|clear p5|clear q5|clear hx5|clear c6|clear p6|clear q6|clear hx6|clear c11|clear c12|clear c13|clear c14|clear c15|clear c16|clear c17|clear c17b0|clear c17b1|clear c17b2|clear c18|clear c19|clear c20|clear c20b0|clear c20b1|clear c20b2|clear c21|clear c21b0|clear c21b1|clear c24|clear c24b0|clear c24b1|clear c24b2|clear c25|clear c26|clear c33|clear c44|clear c46|clear c48|clear c49|clear c49b0|clear c49b1|clear c49b2|clear c51|clear c51b0|clear c52|clear c52b0|clear c53|clear c53b0|clear c55|clear c58|clear c58b0|clear p58|clear q58|clear hx58|clear p59|clear q59|clear hx59|clear c60|clear c61|clear c61b0|clear c61b1|clear c64|clear c64b0|clear p64|clear c65|clear c65b0|clear c66|clear c66b0|clear p66|clear q66|clear hx66|clear p67|clear q67|clear hx67|clear c68|clear c116|clear c120|clear c121|clear c123|clear c123b0|clear c123b1|clear c123b2|clear c125|clear c126|clear c126b0|clear c126b1|clear c126b2|clear c127|clear c127b0|clear c127b1|clear c128|clear c128b0|clear c128b1|clear c128b2|clear c130|clear c131|clear c131b0|clear c131b1|clear c131b2|clear c132|clear c132b0|clear c132b1|clear c133|clear c133b0|clear c133b1|clear c133b2|clear c135|clear c136|clear c136b0|clear c136b1|clear c136b2|clear c137|clear c137b0|clear c137b1|clear c138|clear c138b0|clear c138b1|clear c139|clear c139b0|clear c139b1|clear c139b2|clear c140|clear c140b0|clear c140b1|clear c141|clear c141b0|clear c141b1|clear c141b2|clear c142|clear c142b0|clear c143|clear c143b0|clear c143b1|clear c143b2|clear c144|clear c151|clear c152|clear c154|clear c162|clear c163|clear c165|clear c167|clear c169|clear c170|clear c170b0|clear c170b1|clear c172|clear c172b0|clear c172b1|clear c174|clear c174b0|clear c175|clear c175b0|clear c176|clear c176b0|clear c177|clear c177b0|clear c179|clear c179b0|clear c179b1|clear c179b2|clear c180|clear c180b0|clear c182|clear c182b0|clear c183|clear c183b0|clear c184|clear c184b0|clear c185|clear c185b0|clear c187|clear c189|clear c189b0|clear c189b1|clear c190|clear c191|clear c191b0|clear c191b1|clear hcz109_0|clear hcz109_1|clear hcz109_2|clear hcz111_0|clear hcz111_1|clear hcz111_2|clear hcz117_0|clear hcz117_1|clear hcz117_2|clear hcz122_0|clear hcz122_1|clear hcz122_2|clear hcz153_0|clear hcz153_1|clear hcz153_2|clear hcz155_0|clear hcz155_1|clear hcz155_2|clear hcz164_0|clear hcz164_1|clear hcz164_2|clear hcz166_0|clear hcz166_1|clear hcz166_2|clear hcz57_0|clear hcz57_1|clear hcz57_2|clear hfz109_0|clear hfz109_1|clear hfz109_2|clear hfz111_0|clear hfz111_1|clear hfz111_2|clear hfz117_0|clear hfz117_1|clear hfz117_2|clear hfz122_0|clear hfz122_1|clear hfz122_2|clear hfz153_0|clear hfz153_1|clear hfz153_2|clear hfz155_0|clear hfz155_1|clear hfz155_2|clear hfz164_0|clear hfz164_1|clear hfz164_2|clear hfz166_0|clear hfz166_1|clear hfz166_2|clear hfz57_0|clear hfz57_1|clear hfz57_2|clear hx588_0|clear hx588_1|clear hx588_2|clear hx595_0|clear hx667_0|clear hx669_0|clear hx670_0|clear p588|clear p595|clear p667|clear p669|clear p670|clear q588|clear q595|clear q667|clear q669|clear q670)
             obtain ⟨kq, HA, HJ185, HO_44, BK647, BK657, HB⟩ := hcut
             cases kq with
             | zero => exact absurd HA.out (by simp [laws_FnSignalsReach.j7])
             | succ kj185 =>
              have H := HA.out
              clear HA
              simp only [laws_FnSignalsReach.j7] at H
              have HC194 := Aside0.mk H
              clear H
              go_upto_if 496 with (fail)
              repeat (go_quiet (fail); go_upto_if 496 with (fail))
              go_cut [442, 443, 445, 448, 449, 450, 451, 453, 454, 462, 463, 471, 472, 473, 474, 476, 482, 483, 484, 485, 486, 487, 488, 489, 490, 491, 492, 493, 494, 495, 496] from 9999 (fun _ _ _ _ _ _ _ _ _ _ _ _ _ _ _ _ _ _ _ _ _ _ _ _ _ _ _ _ _ _ _ wc => ∃ (kq : Nat), Aside0 (laws_FnSignalsReach.j9 kq t637 t638 t639 t640 t648 t649 t652 t656 t644 t645 t646 t653 t654 t655 = some r) ∧ Aside0 (kq ≤ kj185) ∧ Aside0 (wc.heap[gb647]? = some (.cells #[.int .i64 t644, .bool t645, .int .i64 t646] 36 (0, 0))) ∧ Aside0 (wc.heap[gb657]? = some (.cells #[.int .i64 t653, .bool t654, .int .i64 t655] 36 (0, 0))) ∧ Aside0 (Below w.heap.size w wc))
              case first => as_aux_lemma =>
               have H := HC194.out
               clear HC194
               by_cases c195 : t630 = true
               ·subst c195
                rw [if_pos rfl] at H
                obtain ⟨y673, hy673⟩ : ∃ y_ : List Int, y_ = (([t628] : List Int)) := ⟨_, rfl⟩
                replace H : ((impl_SpreadTimes.f kj185 t627 y673).bind fun bt676 => (if bt676.2 = true then (if (t629.length : Int) = t627 then (if 0 ≤ t628 then (if t628 < (t629.length : Int) then ((laws_vMost.f kj185 t629).bind fun t681 => (if (rd t629 t628) = t681 then (laws_FnSignalsReach.l3 kj185 t628 t629 t637 t638 t639 t640 t648 t649 t652 t656 bt676.1 t629 (t629.length : Int) 0 t644 t645 t646 t653 t654 t655) else (some false))) else (none)) else (none)) else (some false)) else (some false))) = some r := by first | (rw [hy673]; with_reducible exact H) | (have H2_ := (Option.bind_some _ _).symm.trans H; rw [hy673]; with_reducible exact H2_) | (have H2_ := (Option.bind_some _ _).symm.trans H; with_reducible exact H2_) | with_reducible exact H | (rw [hy673]; exact H) | exact H
                have Ny673 := Aside0.mk hy673
                clear hy673
                replace H := Option.bind_eq_some_iff.mp H
                obtain ⟨⟨t676, t677⟩, A1960, H⟩ := H
                (try dsimp only at H)
                have A196 := Aside0.mk A1960
                clear A1960
                by_cases c197 : t677 = true
                ·subst c197
                 rw [if_pos rfl] at H
                 by_cases c198 : (t629.length : Int) = t627
                 ·rw [if_pos c198] at H
                  have c198b0 : ((t629.length : Int) == t627) = true := beq_iff_eq.mpr c198
                  have c198b1 : ((t629.length : Int) != t627) = false := bne_eq_false_iff_eq.mpr c198
                  clear c198
                  (first | rw [c198b0] | rw [@decide_eq_true _ _ (of_decide_eq_true c198b1)] | rw [@decide_eq_false _ _ (of_decide_eq_false c198b1)] | (simp only [i64_w, i32_w]; rw [c198b0]) | skip)
                  by_cases c199 : 0 ≤ t628
                  ·rw [if_pos c199] at H
                   have c199b0 : decide (0 ≤ t628) = true := decide_eq_true c199
                   clear c199
                   by_cases c200 : t628 < (t629.length : Int)
                   ·rw [if_pos c200] at H
                    have c200b0 : decide (t628 < (t629.length : Int)) = true := decide_eq_true c200
                    clear c200
                    replace H := Option.bind_eq_some_iff.mp H
                    obtain ⟨t681, A2010, H⟩ := H
                    (try dsimp only at H)
                    have A201 := Aside0.mk A2010
                    clear A2010
                    by_cases c202 : (rd t629 t628) = t681
                    ·rw [if_pos c202] at H
                     have c202b0 : ((rd t629 t628) == t681) = true := beq_iff_eq.mpr c202
                     have c202b1 : ((rd t629 t628) != t681) = false := bne_eq_false_iff_eq.mpr c202
                     clear c202
                     have H' := Aside0.mk H
                     clear H
                     iterate 4 ((try go_wp2_with (first | ((with_reducible refine gate_dst (N := 500) rfl ?_); (try (refine gate_guard (by rfl) ?_; dsimp only)); refine Kd.R_lit (Kd.int .i64) _ 3 ?hg (N := 500) ?hd (xs := ([t628] : List Int)) (inner := [.int .i64 t628]) (ok := fun _ => True) (okp := fun _ => True) ?hr ?hp (fun _ hk => hk) trivial (Below.refl _ _) (Nat.le_refl _) (by simp) ?_; (case hd => rfl); (case hg => rfl); (case hr => first | (go_simp; done) | (go_simp; rfl)); (case hp => exact (Reps.one (show Kd.M (Kd.int .i64) _ _ _ t628 [.int .i64 t628] from rfl) (Reps.none _ _))); intro v674 w203 ho204 hb hg_ hnew_; clear hg_ hnew_; (first | rw [← Ny673.out] at ho204 | (simp only [Int.reduceToNat] at ho204; rw [← Ny673.out] at ho204)); have HO675 := Aside0.mk (Kd.R_lower (Kd.R_new' ho204 (Kd.R_lt (pr HO_44))) (below_size bw)); replace HO_44 := re HO_44 ho204 hb; replace BK647 := nk BK647 hb; replace BK657 := nk BK657 hb; replace HB := bs hb; clear hb ho204; obtain ⟨Ao205, co205, eo205⟩ := Kd.R_slice HO675.out; subst eo205) | (go_at_call 16; (with_reducible refine (impl_SpreadTimes.calls kj185 t627 _ _ y673 t676 true _ ?side1 ?side2 A196.out).mono ?_); (case side1 => exact rr HO675); (case side2 => exact rn HO675); rintro e w206 ⟨v678, rfl, ho0, hb⟩; have HO679 := Aside0.mk (Kd.R_lower (Kd.R_new' (Kd.R_new' ho0 (Kd.R_lt (pr HO_44))) (Kd.R_lt (pr HO675))) (below_size bw)); replace HO_44 := re HO_44 ho0 hb; replace HO675 := re HO675 ho0 hb; replace BK647 := nk BK647 hb; replace BK657 := nk BK657 hb; replace HB := bs hb; (try clear hb); (try clear ho0); obtain ⟨Ao207, co207, eo207⟩ := Kd.R_slice HO_44.out; subst eo207; have p680 : 0 ≤ (t628 : Int) := of_decide_eq_true asm; have q680 : t628 < (t629.length : Int) := of_decide_eq_true asm; obtain ⟨ad680, e680, hx680_0⟩ := Kd.at_int (Kd.R_reads' HO_44.out).2.2 t628 p680 q680; cases e680; replace p680 := eq_true p680; replace q680 := eq_true q680) | (go_at_call 37; (with_reducible refine (laws_vMost.calls kj185 _ _ t629 t681 _ ?side1 ?side2 A201.out).mono ?_); (case side1 => exact rr HO_44); (case side2 => exact rn HO_44); rintro e w' ⟨rfl, ⟨nd, rfl⟩⟩; (try exact zz)))); (try go_quiet (first | (go_at_call 37; (with_reducible refine (laws_vMost.calls kj185 _ _ t629 t681 _ ?side1 ?side2 A201.out).mono ?_); (case side1 => exact rr HO_44); (case side2 => exact rn HO_44); rintro e w' ⟨rfl, ⟨nd, rfl⟩⟩; (try exact zz)))))
                     go_loopg [523] kj185 (fun kq v523 w' => ∃ (x523_6 : Int), v523 = .int .i64 x523_6 ∧ Aside0 (laws_FnSignalsReach.l3 kq t628 t629 t637 t638 t639 t640 t648 t649 t652 t656 t676 t629 (t629.length : Int) x523_6 t644 t645 t646 t653 t654 t655 = some r) ∧ Aside0 (kq ≤ kj185) ∧ Aside0 (Kd.R (Kd.int .i64) 3 w' w.heap.size (fun k_ => some k_ ≠ (v678 : Value).ownBlock) (.slice (some ad680) t629.length co207) t629) ∧ Aside0 (Kd.R (Kd.int .i64) 3 w' w.heap.size (fun k_ => some k_ ≠ ((.slice (some ad680) t629.length co207) : Value).ownBlock ∧ some k_ ≠ ((.slice (some ad680) t629.length co207) : Value).ownBlock) v678 t676) ∧ Aside0 (Kd.R (Kd.int .i64) 3 w' w.heap.size (fun k_ => some k_ ≠ (v678 : Value).ownBlock) (.slice (some ad680) t629.length co207) t629) ∧ Aside0 (w'.heap[gb647]? = some (.cells #[.int .i64 t644, .bool t645, .int .i64 t646] 36 (0, 0))) ∧ Aside0 (w'.heap[gb657]? = some (.cells #[.int .i64 t653, .bool t654, .int .i64 t655] 36 (0, 0))) ∧ Aside0 (Below w.heap.size w w'))
                     case atStart => exact ⟨(0), (rs), H', ⟨Nat.le_refl _⟩, ⟨by (with_reducible repeat (first | apply Kd.R_alloc | apply Kd.R_drewN | apply Kd.R_drew)); exact Kd.R_mono HO_44.out (fun _ hk => hk.2)⟩, ⟨by (with_reducible repeat (first | apply Kd.R_alloc | apply Kd.R_drewN | apply Kd.R_drew)); exact Kd.R_mono HO679.out (fun _ hk => ⟨hk.1.2, hk.1.2⟩)⟩, ⟨by (with_reducible repeat (first | apply Kd.R_alloc | apply Kd.R_drewN | apply Kd.R_drew)); exact Kd.R_mono HO_44.out (fun _ hk => hk.2)⟩, ⟨pk BK647⟩, ⟨pk BK657⟩, ⟨bw⟩⟩
                     case round =>
                      clear H'
                      repeat (first|clear c1|clear c2|clear p2|clear c3|clear c4|clear c5|clear p5|clear q5|clear hx5|clear c6|clear p6|clear q6|clear hx6|clear c11|clear c12|clear c13|clear c14|clear c15|clear c16|clear c17|clear c17b0|clear c17b1|clear c17b2|clear c18|clear c19|clear c20|clear c20b0|clear c20b1|clear c20b2|clear c21|clear c21b0|clear c21b1|clear c24|clear c24b0|clear c24b1|clear c24b2|clear c25|clear c26|clear c33|clear c44|clear c46|clear c48|clear c49|clear c49b0|clear c49b1|clear c49b2|clear c51|clear c51b0|clear c52|clear c52b0|clear c53|clear c53b0|clear c55|clear c58|clear c58b0|clear p58|clear q58|clear hx58|clear p59|clear q59|clear hx59|clear c60|clear c61|clear c61b0|clear c61b1|clear c64|clear c64b0|clear p64|clear c65|clear c65b0|clear c66|clear c66b0|clear p66|clear q66|clear hx66|clear p67|clear q67|clear hx67|clear c68|clear p68|clear q68|clear hx68|clear c116|clear c120|clear c121|clear c123|clear c123b0|clear c123b1|clear c123b2|clear c125|clear c126|clear c126b0|clear c126b1|clear c126b2|clear c127|clear c127b0|clear c127b1|clear c128|clear c128b0|clear c128b1|clear c128b2|clear c130|clear c131|clear c131b0|clear c131b1|clear c131b2|clear c132|clear c132b0|clear c132b1|clear c133|clear c133b0|clear c133b1|clear c133b2|clear c135|clear c136|clear c136b0|clear c136b1|clear c136b2|clear c137|clear c137b0|clear c137b1|clear c138|clear c138b0|clear c138b1|clear c139|clear c139b0|clear c139b1|clear c139b2|clear c140|clear c140b0|clear c140b1|clear c141|clear c141b0|clear c141b1|clear c141b2|clear c142|clear c142b0|clear c143|clear c143b0|clear c143b1|clear c143b2|clear c144|clear c151|clear c152|clear c154|clear c162|clear c163|clear c165|clear c167|clear c169|clear c170|clear c170b0|clear c170b1|clear c172|clear c172b0|clear c172b1|clear c174|clear c174b0|clear c175|clear c175b0|clear c176|clear c176b0|clear c177|clear c177b0|clear c179|clear c179b0|clear c179b1|clear c179b2|clear c180|clear c180b0|clear c182|clear c182b0|clear c183|clear c183b0|clear c184|clear c184b0|clear c185|clear c185b0|clear c187|clear c189|clear c189b0|clear c189b1|clear c190|clear c191|clear c191b0|clear c191b1|clear c195|clear c197|clear c198|clear c198b0|clear c198b1|clear c199|clear c199b0|clear c200|clear c200b0|clear c202|clear c202b0|clear c202b1|clear hcz109_0|clear hcz109_1|clear hcz109_2|clear hcz111_0|clear hcz111_1|clear hcz111_2|clear hcz117_0|clear hcz117_1|clear hcz117_2|clear hcz122_0|clear hcz122_1|clear hcz122_2|clear hcz153_0|clear hcz153_1|clear hcz153_2|clear hcz155_0|clear hcz155_1|clear hcz155_2|clear hcz164_0|clear hcz164_1|clear hcz164_2|clear hcz166_0|clear hcz166_1|clear hcz166_2|clear hcz57_0|clear hcz57_1|clear hcz57_2|clear hfz109_0|clear hfz109_1|clear hfz109_2|clear hfz111_0|clear hfz111_1|clear hfz111_2|clear hfz117_0|clear hfz117_1|clear hfz117_2|clear hfz122_0|clear hfz122_1|clear hfz122_2|clear hfz153_0|clear hfz153_1|clear hfz153_2|clear hfz155_0|clear hfz155_1|clear hfz155_2|clear hfz164_0|clear hfz164_1|clear hfz164_2|clear hfz166_0|clear hfz166_1|clear hfz166_2|clear hfz57_0|clear hfz57_1|clear hfz57_2|clear hx588_0|clear hx588_1|clear hx588_2|clear hx595_0|clear hx667_0|clear hx669_0|clear hx670_0|clear hx680_0|clear p588|clear p595|clear p667|clear p669|clear p670|clear p680|clear q588|clear q595|clear q667|clear q669|clear q670|clear q680)
                      obtain ⟨x523_6, rfl, HA, HK6, HO_44, HO_69, HO_521, BK647, BK657, HB⟩ := hrel
                      cases gk with
                      | zero => exact absurd HA.out (by simp [laws_FnSignalsReach.l3])
                      | succ k6 =>
                       have H := HA.out
                       clear HA
                       simp only [laws_FnSignalsReach.l3] at H
                       by_cases c208 : x523_6 < (t629.length : Int)
                       ·rw [if_pos c208] at H
                        have c208b0 : decide (x523_6 < (t629.length : Int)) = true := decide_eq_true c208
                        clear c208
                        by_cases c209 : 0 ≤ x523_6
                        ·rw [if_pos c209] at H
                         have c209b0 : decide (0 ≤ x523_6) = true := decide_eq_true c209
                         clear c209
                         by_cases c210 : x523_6 < (t629.length : Int)
                         ·rw [if_pos c210] at H
                          have c210b0 : decide (x523_6 < (t629.length : Int)) = true := decide_eq_true c210
                          clear c210
                          by_cases c211 : (rd t629 x523_6) < 0
                          ·rw [if_pos c211] at H
                           exact absurd (Option.some.inj H) (by rw [HRT.out]; decide)
                          ·rw [if_neg c211] at H
                           have c211b0 : decide ((rd t629 x523_6) < 0) = false := decide_eq_false c211
                           clear c211
                           by_cases c212 : x523_6 < (t676.length : Int)
                           ·rw [if_pos c212] at H
                            have c212b0 : decide (x523_6 < (t676.length : Int)) = true := decide_eq_true c212
                            clear c212
                            by_cases c213 : 0 ≤ t628
                            ·rw [if_pos c213] at H
                             have c213b0 : decide (0 ≤ t628) = true := decide_eq_true c213
                             clear c213
                             by_cases c214 : t628 < (t629.length : Int)
                             ·rw [if_pos c214] at H
                              have c214b0 : decide (t628 < (t629.length : Int)) = true := decide_eq_true c214
                              clear c214
                              by_cases c215 : (wrap64 ((rd t629 x523_6) + (rd t676 x523_6))) = (rd t629 t628)
                              ·rw [if_pos c215] at H
                               have c215b0 : ((wrap64 ((rd t629 x523_6) + (rd t676 x523_6))) == (rd t629 t628)) = true := beq_iff_eq.mpr c215
                               have c215b1 : ((wrap64 ((rd t629 x523_6) + (rd t676 x523_6))) != (rd t629 t628)) = false := bne_eq_false_iff_eq.mpr c215
                               clear c215
                               have H' := Aside0.mk H
                               clear H
                               have p682 : 0 ≤ (x523_6 : Int) := of_decide_eq_true asm
                               have q682 : x523_6 < (t629.length : Int) := of_decide_eq_true asm
                               obtain ⟨ad682, e682, hx682_0⟩ := Kd.at_int (Kd.R_reads' HO_521.out).2.2 x523_6 p682 q682
                               obtain rfl : ad680 = ad682 := (by injection e682)
                               replace p682 := eq_true p682
                               replace q682 := eq_true q682
                               obtain ⟨Ao216, co216, eo216⟩ := Kd.R_slice HO_69.out
                               subst eo216
                               have p683 : 0 ≤ (x523_6 : Int) := of_decide_eq_true asm
                               have q683 : x523_6 < (t676.length : Int) := of_decide_eq_true asm
                               obtain ⟨ad683, e683, hx683_0⟩ := Kd.at_int (Kd.R_reads' HO_69.out).2.2 x523_6 p683 q683
                               cases e683
                               replace p683 := eq_true p683
                               replace q683 := eq_true q683
                               have p684 : 0 ≤ (t628 : Int) := of_decide_eq_true asm
                               have q684 : t628 < (t629.length : Int) := of_decide_eq_true asm
                               obtain ⟨ad684, e684, hx684_0⟩ := Kd.at_int (Kd.R_reads' HO_44.out).2.2 t628 p684 q684
                               obtain rfl : ad680 = ad684 := (by injection e684)
                               replace p684 := eq_true p684
                               replace q684 := eq_true q684
                               go_wp2
                               repeat (go_quiet (fail); try go_wp2)
                               go_roundg k6
                               case measure => have := HJ9.out; have := HJ44.out; have := HJ90.out; have := HJ167.out; have := HJ185.out; have := HK6.out; omega
                               case rel => exact ⟨(wrap64 (x523_6 + 1)), (rs), H', ⟨by have := HJ9.out; have := HJ44.out; have := HJ90.out; have := HJ167.out; have := HJ185.out; have := HK6.out; omega⟩, ⟨pr HO_44⟩, ⟨pr HO_69⟩, ⟨pr HO_521⟩, ⟨pk BK647⟩, ⟨pk BK657⟩, ⟨bw⟩⟩
                              ·rw [if_neg c215] at H
                               exact absurd (Option.some.inj H) (by rw [HRT.out]; decide)
                             ·rw [if_neg c214] at H
                              exact absurd H (by simp)
                            ·rw [if_neg c213] at H
                             exact absurd H (by simp)
                           ·rw [if_neg c212] at H
                            exact absurd H (by simp)
                         ·rw [if_neg c210] at H
                          exact absurd H (by simp)
                        ·rw [if_neg c209] at H
                         exact absurd H (by simp)
                       ·rw [if_neg c208] at H
                        have c208b0 : decide (x523_6 < (t629.length : Int)) = false := decide_eq_false c208
                        clear c208
                        have H' := Aside0.mk H
                        clear H
                        go_wp2
                        repeat (go_quiet (fail); try go_wp2)
                        go_meet
                        case rel => exact ⟨_, H', ⟨by have := HJ9.out; have := HJ44.out; have := HJ90.out; have := HJ167.out; have := HJ185.out; have := HK6.out; first | omega | exact Nat.le_refl _⟩, ⟨pk BK647⟩, ⟨pk BK657⟩, ⟨bw⟩⟩
                    ·rw [if_neg c202] at H
                     exact absurd (Option.some.inj H) (by rw [HRT.out]; decide)
                   ·rw [if_neg c200] at H
                    exact absurd H (by simp)
                  ·rw [if_neg c199] at H
                   exact absurd H (by simp)
                 ·rw [if_neg c198] at H
                  exact absurd (Option.some.inj H) (by rw [HRT.out]; decide)
                ·replace c197 := Bool.eq_false_iff.mpr c197
                 subst c197
                 rw [if_neg (show ¬ (false = true) by decide)] at H
                 exact absurd (Option.some.inj H) (by rw [HRT.out]; decide)
               ·replace c195 := Bool.eq_false_iff.mpr c195
                subst c195
                rw [if_neg (show ¬ (false = true) by decide)] at H
                have H' := Aside0.mk H
                clear H
                go_wp2
                repeat (go_quiet (fail); try go_wp2)
                go_meet
                case rel => exact ⟨_, H', ⟨by have := HJ9.out; have := HJ44.out; have := HJ90.out; have := HJ167.out; have := HJ185.out; first | omega | exact Nat.le_refl _⟩, ⟨pk BK647⟩, ⟨pk BK657⟩, ⟨bw⟩⟩
              case rest =>
               clear HC194
               repeat (first|clear c1|clear c2|clear p2|clear c3|clear c4|clear c5|clear p5|clear q5|clear hx5|clear c6|clear p6|clear q6|clear hx6|clear c11|clear c12|clear c13|clear c14|clear c15|clear c16|clear c17|clear c17b0|clear c17b1|clear c17b2|clear c18|clear c19|clear c20|clear c20b0|clear c20b1|clear c20b2|clear c21|clear c21b0|clear c21b1|clear c24|clear c24b0|clear c24b1|clear c24b2|clear c25|clear c26|clear c33|clear c44|clear c46|clear c48|clear c49|clear c49b0|clear c49b1|clear c49b2|clear c51|clear c51b0|clear c52|clear c52b0|clear c53|clear c53b0|clear c55|clear c58|clear c58b0|clear p58|clear q58|clear hx58|clear p59|clear q59|clear hx59|clear c60|clear c61|clear c61b0|clear c61b1|clear c64|clear c64b0|clear p64|clear c65|clear c65b0|clear c66|clear c66b0|clear p66|clear q66|clear hx66|clear p67|clear q67|clear hx67|clear c68|clear p68|clear q68|clear hx68|clear c116|clear c120|clear c121|clear c123|clear c123b0|clear c123b1|clear c123b2|clear c125|clear c126|clear c126b0|clear c126b1|clear c126b2|clear c127|clear c127b0|clear c127b1|clear c128|clear c128b0|clear c128b1|clear c128b2|clear c130|clear c131|clear c131b0|clear c131b1|clear c131b2|clear c132|clear c132b0|clear c132b1|clear c133|clear c133b0|clear c133b1|clear c133b2|clear c135|clear c136|clear c136b0|clear c136b1|clear c136b2|clear c137|clear c137b0|clear c137b1|clear c138|clear c138b0|clear c138b1|clear c139|clear c139b0|clear c139b1|clear c139b2|clear c140|clear c140b0|clear c140b1|clear c141|clear c141b0|clear c141b1|clear c141b2|clear c142|clear c142b0|clear c143|clear c143b0|clear c143b1|clear c143b2|clear c144|clear c151|clear c152|clear c154|clear c162|clear c163|clear c165|clear c167|clear c169|clear c170|clear c170b0|clear c170b1|clear c172|clear c172b0|clear c172b1|clear c174|clear c174b0|clear c175|clear c175b0|clear c176|clear c176b0|clear c177|clear c177b0|clear c179|clear c179b0|clear c179b1|clear c179b2|clear c180|clear c180b0|clear c182|clear c182b0|clear c183|clear c183b0|clear c184|clear c184b0|clear c185|clear c185b0|clear c187|clear c189|clear c189b0|clear c189b1|clear c190|clear c191|clear c191b0|clear c191b1|clear c195|clear c197|clear c198|clear c198b0|clear c198b1|clear c199|clear c199b0|clear c200|clear c200b0|clear c202|clear c202b0|clear c202b1|clear c208|clear c208b0|clear c209|clear c209b0|clear c210|clear c210b0|clear c211|clear c211b0|clear c212|clear c212b0|clear c213|clear c213b0|clear c214|clear c214b0|clear c215|clear c215b0|clear c215b1|clear hcz109_0|clear hcz109_1|clear hcz109_2|clear hcz111_0|clear hcz111_1|clear hcz111_2|clear hcz117_0|clear hcz117_1|clear hcz117_2|clear hcz122_0|clear hcz122_1|clear hcz122_2|clear hcz153_0|clear hcz153_1|clear hcz153_2|clear hcz155_0|clear hcz155_1|clear hcz155_2|clear hcz164_0|clear hcz164_1|clear hcz164_2|clear hcz166_0|clear hcz166_1|clear hcz166_2|clear hcz57_0|clear hcz57_1|clear hcz57_2|clear hfz109_0|clear hfz109_1|clear hfz109_2|clear hfz111_0|clear hfz111_1|clear hfz111_2|clear hfz117_0|clear hfz117_1|clear hfz117_2|clear hfz122_0|clear hfz122_1|clear hfz122_2|clear hfz153_0|clear hfz153_1|clear hfz153_2|clear hfz155_0|clear hfz155_1|clear hfz155_2|clear hfz164_0|clear hfz164_1|clear hfz164_2|clear hfz166_0|clear hfz166_1|clear hfz166_2|clear hfz57_0|clear hfz57_1|clear hfz57_2|clear hx588_0|clear hx588_1|clear hx588_2|clear hx595_0|clear hx667_0|clear hx669_0|clear hx670_0|clear hx680_0|clear hx682_0|clear hx683_0|clear hx684_0|clear p588|clear p595|clear p667|clear p669|clear p670|clear p680|clear p682|clear p683|clear p684|clear q588|clear q595|clear q667|clear q669|clear q670|clear q680|clear q682|clear q683|clear q684)
               obtain ⟨kq, HA, HJ193, BK647, BK657, HB⟩ := hcut
               cases kq with
               | zero => exact absurd HA.out (by simp [laws_FnSignalsReach.j9])
               | succ kj193 =>
                have H := HA.out
                clear HA
                simp only [laws_FnSignalsReach.j9] at H
                have HC217 := Aside0.mk H
                clear H
                go_upto_region 76 with (fail)
                repeat (go_quiet (fail); go_upto_region 76 with (fail))
                go_cut [486, 487, 488, 489, 490, 491, 494, 495, 496, 503, 504, 505, 506, 510, 511, 512, 519, 520, 529, 530, 531, 532, 533, 534, 535, 536, 537, 538, 539, 540, 541, 542, 543, 549] from 9999 (fun _ _ _ _ _ _ _ _ _ _ _ _ _ _ _ _ _ _ _ _ _ _ _ _ _ _ _ _ _ _ _ _ _ v549 wc => ∃ (kq : Nat) (x549_216 : Bool), v549 = .bool x549_216 ∧ Aside0 (laws_FnSignalsReach.j10 kq t637 t638 t639 t648 t649 t652 t656 x549_216 t644 t645 t646 t653 t654 t655 = some r) ∧ Aside0 (kq ≤ kj193) ∧ Aside0 (wc.heap[gb647]? = some (.cells #[.int .i64 t644, .bool t645, .int .i64 t646] 36 (0, 0))) ∧ Aside0 (wc.heap[gb657]? = some (.cells #[.int .i64 t653, .bool t654, .int .i64 t655] 36 (0, 0))) ∧ Aside0 (Below w.heap.size w wc))
                case first => as_aux_lemma =>
                 have H := HC217.out
                 clear HC217
                 by_cases c218 : t640 = true
                 ·subst c218
                  rw [if_pos rfl] at H
                  have H' := Aside0.mk H
                  clear H
                  go_wp2
                  repeat (go_quiet (fail); try go_wp2)
                  go_meet
                  case rel => exact ⟨_, (((Int.tmod t637 2) == 1)), (rs), H', ⟨by have := HJ9.out; have := HJ44.out; have := HJ90.out; have := HJ167.out; have := HJ185.out; have := HJ193.out; first | omega | exact Nat.le_refl _⟩, ⟨pk BK647⟩, ⟨pk BK657⟩, ⟨bw⟩⟩
                 ·replace c218 := Bool.eq_false_iff.mpr c218
                  subst c218
                  rw [if_neg (show ¬ (false = true) by decide)] at H
                  have H' := Aside0.mk H
                  clear H
                  go_wp2
                  repeat (go_quiet (fail); try go_wp2)
                  go_meet
                  case rel => exact ⟨_, (false), (rs), H', ⟨by have := HJ9.out; have := HJ44.out; have := HJ90.out; have := HJ167.out; have := HJ185.out; have := HJ193.out; first | omega | exact Nat.le_refl _⟩, ⟨pk BK647⟩, ⟨pk BK657⟩, ⟨bw⟩⟩
                case rest =>
                 clear HC217
                 repeat (first|clear c1|clear c2|clear p2|clear c3|clear c4|clear c5|clear p5|clear q5|clear hx5|clear c6|clear p6|clear q6|clear hx6|clear c11|clear c12|clear c13|clear c14|clear c15|clear c16|clear c17|clear c17b0|clear c17b1|clear c17b2|clear c18|clear c19|clear c20|clear c20b0|clear c20b1|clear c20b2|clear c21|clear c21b0|clear c21b1|clear c24|clear c24b0|clear c24b1|clear c24b2|clear c25|clear c26|clear c33|clear c44|clear c46|clear c48|clear c49|clear c49b0|clear c49b1|clear c49b2|clear c51|clear c51b0|clear c52|clear c52b0|clear c53|clear c53b0|clear c55|clear c58|clear c58b0|clear p58|clear q58|clear hx58|clear p59|clear q59|clear hx59|clear c60|clear c61|clear c61b0|clear c61b1|clear c64|clear c64b0|clear p64|clear c65|clear c65b0|clear c66|clear c66b0|clear p66|clear q66|clear hx66|clear p67|clear q67|clear hx67|clear c68|clear p68|clear q68|clear hx68|clear c116|clear c120|clear c121|clear c123|clear c123b0|clear c123b1|clear c123b2|clear c125|clear c126|clear c126b0|clear c126b1|clear c126b2|clear c127|clear c127b0|clear c127b1|clear c128|clear c128b0|clear c128b1|clear c128b2|clear c130|clear c131|clear c131b0|clear c131b1|clear c131b2|clear c132|clear c132b0|clear c132b1|clear c133|clear c133b0|clear c133b1|clear c133b2|clear c135|clear c136|clear c136b0|clear c136b1|clear c136b2|clear c137|clear c137b0|clear c137b1|clear c138|clear c138b0|clear c138b1|clear c139|clear c139b0|clear c139b1|clear c139b2|clear c140|clear c140b0|clear c140b1|clear c141|clear c141b0|clear c141b1|clear c141b2|clear c142|clear c142b0|clear c143|clear c143b0|clear c143b1|clear c143b2|clear c144|clear c151|clear c152|clear c154|clear c162|clear c163|clear c165|clear c167|clear c169|clear c170|clear c170b0|clear c170b1|clear c172|clear c172b0|clear c172b1|clear c174|clear c174b0|clear c175|clear c175b0|clear c176|clear c176b0|clear c177|clear c177b0|clear c179|clear c179b0|clear c179b1|clear c179b2|clear c180|clear c180b0|clear c182|clear c182b0|clear c183|clear c183b0|clear c184|clear c184b0|clear c185|clear c185b0|clear c187|clear c189|clear c189b0|clear c189b1|clear c190|clear c191|clear c191b0|clear c191b1|clear c195|clear c197|clear c198|clear c198b0|clear c198b1|clear c199|clear c199b0|clear c200|clear c200b0|clear c202|clear c202b0|clear c202b1|clear c208|clear c208b0|clear c209|clear c209b0|clear c210|clear c210b0|clear c211|clear c211b0|clear c212|clear c212b0|clear c213|clear c213b0|clear c214|clear c214b0|clear c215|clear c215b0|clear c215b1|clear c218|clear hcz109_0|clear hcz109_1|clear hcz109_2|clear hcz111_0|clear hcz111_1|clear hcz111_2|clear hcz117_0|clear hcz117_1|clear hcz117_2|clear hcz122_0|clear hcz122_1|clear hcz122_2|clear hcz153_0|clear hcz153_1|clear hcz153_2|clear hcz155_0|clear hcz155_1|clear hcz155_2|clear hcz164_0|clear hcz164_1|clear hcz164_2|clear hcz166_0|clear hcz166_1|clear hcz166_2|clear hcz57_0|clear hcz57_1|clear hcz57_2|clear hfz109_0|clear hfz109_1|clear hfz109_2|clear hfz111_0|clear hfz111_1|clear hfz111_2|clear hfz117_0|clear hfz117_1|clear hfz117_2|clear hfz122_0|clear hfz122_1|clear hfz122_2|clear hfz153_0|clear hfz153_1|clear hfz153_2|clear hfz155_0|clear hfz155_1|clear hfz155_2|clear hfz164_0|clear hfz164_1|clear hfz164_2|clear hfz166_0|clear hfz166_1|clear hfz166_2|clear hfz57_0|clear hfz57_1|clear hfz57_2|clear hx588_0|clear hx588_1|clear hx588_2|clear hx595_0|clear hx667_0|clear hx669_0|clear hx670_0|clear hx680_0|clear hx682_0|clear hx683_0|clear hx684_0|clear p588|clear p595|clear p667|clear p669|clear p670|clear p680|clear p682|clear p683|clear p684|clear q588|clear q595|clear q667|clear q669|clear q670|clear q680|clear q682|clear q683|clear q684)
                 obtain ⟨kq, x549_216, rfl, HA, HJ216, BK647, BK657, HB⟩ := hcut
                 cases kq with
                 | zero => exact absurd HA.out (by simp [laws_FnSignalsReach.j10])
                 | succ kj216 =>
                  have H := HA.out
                  clear HA
                  simp only [laws_FnSignalsReach.j10] at H
                  have HC219 := Aside0.mk H
                  clear H
                  go_upto_if 549 with (fail)
                  repeat (go_quiet (fail); go_upto_if 549 with (fail))
                  go_cut [490, 491, 494, 495, 496, 503, 504, 505, 506, 510, 511, 512, 519, 520, 529, 530, 536, 537, 538, 539, 540, 541, 542, 543, 544, 545, 546, 547, 548, 549] from 9999 (fun _ _ _ _ _ _ _ _ _ _ _ _ _ _ _ _ _ _ _ _ _ _ _ _ _ _ _ _ _ _ wc => ∃ (kq : Nat), Aside0 (laws_FnSignalsReach.j11 kq t648 t649 t652 t656 t644 t645 t646 t653 t654 t655 = some r) ∧ Aside0 (kq ≤ kj216) ∧ Aside0 (wc.heap[gb647]? = some (.cells #[.int .i64 t644, .bool t645, .int .i64 t646] 36 (0, 0))) ∧ Aside0 (wc.heap[gb657]? = some (.cells #[.int .i64 t653, .bool t654, .int .i64 t655] 36 (0, 0))) ∧ Aside0 (Below w.heap.size w wc))
                  case first => as_aux_lemma =>
                   have H := HC219.out
                   clear HC219
                   by_cases c220 : x549_216 = true
                   ·subst c220
                    rw [if_pos rfl] at H
                    by_cases c221 : (wrap64 (2 * t639)) = (wrap64 (t637 - 1))
                    ·rw [if_pos c221] at H
                     have c221b0 : ((wrap64 (2 * t639)) == (wrap64 (t637 - 1))) = true := beq_iff_eq.mpr c221
                     have c221b1 : ((wrap64 (2 * t639)) != (wrap64 (t637 - 1))) = false := bne_eq_false_iff_eq.mpr c221
                     clear c221
                     (first | rw [c221b0] | rw [@decide_eq_true _ _ (of_decide_eq_true c221b1)] | rw [@decide_eq_false _ _ (of_decide_eq_false c221b1)] | (simp only [i64_w, i32_w]; rw [c221b0]) | skip)
                     by_cases c222 : t638 = (wrap64 (3 * t639))
                     ·rw [if_pos c222] at H
                      have c222b0 : (t638 == (wrap64 (3 * t639))) = true := beq_iff_eq.mpr c222
                      have c222b1 : (t638 != (wrap64 (3 * t639))) = false := bne_eq_false_iff_eq.mpr c222
                      clear c222
                      have H' := Aside0.mk H
                      clear H
                      go_wp2
                      repeat (go_quiet (fail); try go_wp2)
                      go_meet
                      case rel => exact ⟨_, H', ⟨by have := HJ9.out; have := HJ44.out; have := HJ90.out; have := HJ167.out; have := HJ185.out; have := HJ193.out; have := HJ216.out; first | omega | exact Nat.le_refl _⟩, ⟨pk BK647⟩, ⟨pk BK657⟩, ⟨bw⟩⟩
                     ·rw [if_neg c222] at H
                      exact absurd (Option.some.inj H) (by rw [HRT.out]; decide)
                    ·rw [if_neg c221] at H
                     exact absurd (Option.some.inj H) (by rw [HRT.out]; decide)
                   ·replace c220 := Bool.eq_false_iff.mpr c220
                    subst c220
                    rw [if_neg (show ¬ (false = true) by decide)] at H
                    have H' := Aside0.mk H
                    clear H
                    go_wp2
                    repeat (go_quiet (fail); try go_wp2)
                    go_meet
                    case rel => exact ⟨_, H', ⟨by have := HJ9.out; have := HJ44.out; have := HJ90.out; have := HJ167.out; have := HJ185.out; have := HJ193.out; have := HJ216.out; first | omega | exact Nat.le_refl _⟩, ⟨pk BK647⟩, ⟨pk BK657⟩, ⟨bw⟩⟩
                  case rest =>
                   clear HC219
                   repeat (first|clear c1|clear c2|clear p2|clear c3|clear c4|clear c5|clear p5|clear q5|clear hx5|clear c6|clear p6|clear q6|clear hx6|clear c11|clear c12|clear c13|clear c14|clear c15|clear c16|clear c17|clear c17b0|clear c17b1|clear c17b2|clear c18|clear c19|clear c20|clear c20b0|clear c20b1|clear c20b2|clear c21|clear c21b0|clear c21b1|clear c22|clear c24|clear c24b0|clear c24b1|clear c24b2|clear c25|clear c26|clear c33|clear c44|clear c46|clear c48|clear c49|clear c49b0|clear c49b1|clear c49b2|clear c51|clear c51b0|clear c52|clear c52b0|clear c53|clear c53b0|clear c55|clear c58|clear c58b0|clear p58|clear q58|clear hx58|clear p59|clear q59|clear hx59|clear c60|clear c61|clear c61b0|clear c61b1|clear c64|clear c64b0|clear p64|clear c65|clear c65b0|clear c66|clear c66b0|clear p66|clear q66|clear hx66|clear p67|clear q67|clear hx67|clear c68|clear p68|clear q68|clear hx68|clear c116|clear c120|clear c121|clear c123|clear c123b0|clear c123b1|clear c123b2|clear c125|clear c126|clear c126b0|clear c126b1|clear c126b2|clear c127|clear c127b0|clear c127b1|clear c128|clear c128b0|clear c128b1|clear c128b2|clear c130|clear c131|clear c131b0|clear c131b1|clear c131b2|clear c132|clear c132b0|clear c132b1|clear c133|clear c133b0|clear c133b1|clear c133b2|clear c135|clear c136|clear c136b0|clear c136b1|clear c136b2|clear c137|clear c137b0|clear c137b1|clear c138|clear c138b0|clear c138b1|clear c139|clear c139b0|clear c139b1|clear c139b2|clear c140|clear c140b0|clear c140b1|clear c141|clear c141b0|clear c141b1|clear c141b2|clear c142|clear c142b0|clear c143|clear c143b0|clear c143b1|clear c143b2|clear c144|clear c151|clear c152|clear c154|clear c162|clear c163|clear c165|clear c167|clear c169|clear c170|clear c170b0|clear c170b1|clear c172|clear c172b0|clear c172b1|clear c174|clear c174b0|clear c175|clear c175b0|clear c176|clear c176b0|clear c177|clear c177b0|clear c179|clear c179b0|clear c179b1|clear c179b2|clear c180|clear c180b0|clear c182|clear c182b0|clear c183|clear c183b0|clear c184|clear c184b0|clear c185|clear c185b0|clear c187|clear c189|clear c189b0|clear c189b1|clear c190|clear c191|clear c191b0|clear c191b1|clear c195|clear c197|clear c198|clear c198b0|clear c198b1|clear c199|clear c199b0|clear c200|clear c200b0|clear c202|clear c202b0|clear c202b1|clear c208|clear c208b0|clear c209|clear c209b0|clear c210|clear c210b0|clear c211|clear c211b0|clear c212|clear c212b0|clear c213|clear c213b0|clear c214|clear c214b0|clear c215|clear c215b0|clear c215b1|clear c218|clear c220|clear c221|clear c221b0|clear c221b1|clear c222|clear c222b0|clear c222b1|clear hcz109_0|clear hcz109_1|clear hcz109_2|clear hcz111_0|clear hcz111_1|clear hcz111_2|clear hcz117_0|clear hcz117_1|clear hcz117_2|clear hcz122_0|clear hcz122_1|clear hcz122_2|clear hcz153_0|clear hcz153_1|clear hcz153_2|clear hcz155_0|clear hcz155_1|clear hcz155_2|clear hcz164_0|clear hcz164_1|clear hcz164_2|clear hcz166_0|clear hcz166_1|clear hcz166_2|clear hcz57_0|clear hcz57_1|clear hcz57_2|clear hfz109_0|clear hfz109_1|clear hfz109_2|clear hfz111_0|clear hfz111_1|clear hfz111_2|clear hfz117_0|clear hfz117_1|clear hfz117_2|clear hfz122_0|clear hfz122_1|clear hfz122_2|clear hfz153_0|clear hfz153_1|clear hfz153_2|clear hfz155_0|clear hfz155_1|clear hfz155_2|clear hfz164_0|clear hfz164_1|clear hfz164_2|clear hfz166_0|clear hfz166_1|clear hfz166_2|clear hfz57_0|clear hfz57_1|clear hfz57_2|clear hx588_0|clear hx588_1|clear hx588_2|clear hx595_0|clear hx667_0|clear hx669_0|clear hx670_0|clear hx680_0|clear hx682_0|clear hx683_0|clear hx684_0|clear p588|clear p595|clear p667|clear p669|clear p670|clear p680|clear p682|clear p683|clear p684|clear q588|clear q595|clear q667|clear q669|clear q670|clear q680|clear q682|clear q683|clear q684)
                   obtain ⟨kq, HA, HJ218, BK647, BK657, HB⟩ := hcut
                   cases kq with
                   | zero => exact absurd HA.out (by simp [laws_FnSignalsReach.j11])
                   | succ kj218 =>
                    have H := HA.out
                    clear HA
                    simp only [laws_FnSignalsReach.j11] at H
                    by_cases c223 : t649 = true
                    ·subst c223
                     rw [if_pos rfl] at H
                     replace H := Option.bind_eq_some_iff.mp H
                     obtain ⟨⟨t685, t686, t687, t688⟩, A2240, H⟩ := H
                     (try dsimp only at H)
                     have A224 := Aside0.mk A2240
                     clear A2240
                     by_cases c225 : t688 = true
                     ·subst c225
                      rw [if_pos rfl] at H
                      by_cases c226 : (!(t685 == t644) || (!(t686 == t645) || (!(t687 == t646)))) = true
                      ·rw [if_pos c226] at H
                       exact absurd (Option.some.inj H) (by rw [HRT.out]; decide)
                      ·rw [if_neg c226] at H
                       have c226b0 : (!(t685 == t644) || (!(t686 == t645) || (!(t687 == t646)))) = false := by simpa using c226
                       clear c226
                       by_cases c227 : t656 = true
                       ·subst c227
                        rw [if_pos rfl] at H
                        replace H := Option.bind_eq_some_iff.mp H
                        obtain ⟨⟨t690, t691⟩, A2280, H⟩ := H
                        (try dsimp only at H)
                        have A228 := Aside0.mk A2280
                        clear A2280
                        by_cases c229 : t691 = true
                        ·subst c229
                         rw [if_pos rfl] at H
                         obtain rfl := Option.some.inj H
                         iterate 4 ((try go_wp2_with (first | (go_at_call 35; (with_reducible refine (impl_ParseSignal.calls t648 t685 t686 t687 true _ ?side1 A224.out).mono ?_); (case side1 => exact Dr.mm HMM); rintro e w230 ⟨rfl, hb⟩; replace BK647 := nk BK647 hb; replace BK657 := nk BK657 hb; replace HB := bs hb; (try clear hb)) | ((with_reducible refine gate_dst (N := 73) rfl ?_); (try (refine gate_guard (by rfl) ?_; dsimp only)); refine bx 73 36 #[.int .i64 0, .bool false, .int .i64 0] ?_; intro gb689 hg w231 hbox hb; have BK689 := hbox; have GW689 := gs hg; have GE689 := gs hg; replace HB := bs hb; have NB647_689 := nl BK647 hg; have NB689_647 := ng BK647 hg; replace BK647 := nk BK647 hb; have NB657_689 := nl BK657 hg; have NB689_657 := ng BK657 hg; replace BK657 := nk BK657 hb; clear hb hbox hg; have hnb232 := NB689_647.out; have hnc232 := NB647_689.out; have hnb233 := NB689_657.out; have hnc233 := NB657_689.out; have hcz234_0 := bc BK689 0 (.int .i64 0); have hcz234_1 := bc BK689 1 (.bool false); have hcz234_2 := bc BK689 2 (.int .i64 0); have hfz234_0 := blk_frozen BK689.out 0; have hfz234_1 := blk_frozen BK689.out 1; have hfz234_2 := blk_frozen BK689.out 2; have hnb235 := NB647_657.out; have hnc235 := NB657_647.out; have hcz236_0 := bc BK647 0 (.int .i64 t644); have hcz236_1 := bc BK647 1 (.bool t645); have hcz236_2 := bc BK647 2 (.int .i64 t646); have hfz236_0 := blk_frozen BK647.out 0; have hfz236_1 := blk_frozen BK647.out 1; have hfz236_2 := blk_frozen BK647.out 2; have hcz237_0 := bc BK657 0 (.int .i64 t653); have hcz237_1 := bc BK657 1 (.bool t654); have hcz237_2 := bc BK657 2 (.int .i64 t655); have hfz237_0 := blk_frozen BK657.out 0; have hfz237_1 := blk_frozen BK657.out 1; have hfz237_2 := blk_frozen BK657.out 2) | (go_at_call 32; (with_reducible refine (impl_SignalText.calls t653 t654 t655 t690 true _ A228.out).mono ?_); rintro e w238 ⟨rfl, hb⟩; replace BK647 := nf BK647 hb; replace BK657 := nf BK657 hb; replace BK689 := Aside0.mk (blk_below (g := gb689) (o := .cells #[.int .i64 t685, .bool t686, .int .i64 t687] 36 (0, 0)) (by (with_reducible repeat (first | refine blk_drewN ?_ _ | refine blk_drew ?_ | refine blk_alloc ?_ _)); refine blk_put (cs := #[.int .i64 t685, .bool t686, .int .i64 0]) ?_ 2 _ rfl; (with_reducible repeat (first | refine blk_drewN ?_ _ | refine blk_drew ?_ | refine blk_alloc ?_ _)); refine blk_put (cs := #[.int .i64 t685, .bool false, .int .i64 0]) ?_ 1 _ rfl; (with_reducible repeat (first | refine blk_drewN ?_ _ | refine blk_drew ?_ | refine blk_alloc ?_ _)); refine blk_put (cs := #[.int .i64 0, .bool false, .int .i64 0]) ?_ 0 _ rfl; (with_reducible repeat (first | refine blk_drewN ?_ _ | refine blk_drew ?_ | refine blk_alloc ?_ _)); exact BK689.out) hb); replace HB := bs hb; (try clear hb)))); (try go_quiet (fail)))
                         go_ret
                         exact ⟨rs, bw⟩
                        ·replace c229 := Bool.eq_false_iff.mpr c229
                         subst c229
                         rw [if_neg (show ¬ (false = true) by decide)] at H
                         exact absurd (Option.some.inj H) (by rw [HRT.out]; decide)
                       ·replace c227 := Bool.eq_false_iff.mpr c227
                        subst c227
                        rw [if_neg (show ¬ (false = true) by decide)] at H
                        obtain rfl := Option.some.inj H
                        iterate 4 ((try go_wp2_with (first | (go_at_call 35; (with_reducible refine (impl_ParseSignal.calls t648 t685 t686 t687 true _ ?side1 A224.out).mono ?_); (case side1 => exact Dr.mm HMM); rintro e w239 ⟨rfl, hb⟩; replace BK647 := nk BK647 hb; replace BK657 := nk BK657 hb; replace HB := bs hb; (try clear hb)) | ((with_reducible refine gate_dst (N := 73) rfl ?_); (try (refine gate_guard (by rfl) ?_; dsimp only)); refine bx 73 36 #[.int .i64 0, .bool false, .int .i64 0] ?_; intro gb689 hg w240 hbox hb; have BK689 := hbox; have GW689 := gs hg; have GE689 := gs hg; replace HB := bs hb; have NB647_689 := nl BK647 hg; have NB689_647 := ng BK647 hg; replace BK647 := nk BK647 hb; clear hb hbox hg; have hnb241 := NB689_647.out; have hnc241 := NB647_689.out; have hcz242_0 := bc BK689 0 (.int .i64 0); have hcz242_1 := bc BK689 1 (.bool false); have hcz242_2 := bc BK689 2 (.int .i64 0); have hfz242_0 := blk_frozen BK689.out 0; have hfz242_1 := blk_frozen BK689.out 1; have hfz242_2 := blk_frozen BK689.out 2; have hcz243_0 := bc BK647 0 (.int .i64 t644); have hcz243_1 := bc BK647 1 (.bool t645); have hcz243_2 := bc BK647 2 (.int .i64 t646); have hfz243_0 := blk_frozen BK647.out 0; have hfz243_1 := blk_frozen BK647.out 1; have hfz243_2 := blk_frozen BK647.out 2))); (try go_quiet (fail)))
                        go_ret
                        exact ⟨rs, bw⟩
                     ·replace c225 := Bool.eq_false_iff.mpr c225
                      subst c225
                      rw [if_neg (show ¬ (false = true) by decide)] at H
                      exact absurd (Option.some.inj H) (by rw [HRT.out]; decide)
                    ·replace c223 := Bool.eq_false_iff.mpr c223
                     subst c223
                     rw [if_neg (show ¬ (false = true) by decide)] at H
                     by_cases c244 : t656 = true
                     ·subst c244
                      rw [if_pos rfl] at H
                      replace H := Option.bind_eq_some_iff.mp H
                      obtain ⟨⟨t692, t693⟩, A2450, H⟩ := H
                      (try dsimp only at H)
                      have A245 := Aside0.mk A2450
                      clear A2450
                      by_cases c246 : t693 = true
                      ·subst c246
                       rw [if_pos rfl] at H
                       obtain rfl := Option.some.inj H
                       have hnb247 := NB657_647.out
                       have hnc247 := NB647_657.out
                       have hcz248_0 : wc.cell? ⟨gb657, 0, none⟩ = some (.int .i64 t653) := ec BK657
                       have hcz248_1 : wc.cell? ⟨gb657, 1, none⟩ = some (.bool t654) := ec BK657
                       have hcz248_2 : wc.cell? ⟨gb657, 2, none⟩ = some (.int .i64 t655) := ec BK657
                       have hfz248_0 := blk_frozen BK657.out 0
                       have hfz248_1 := blk_frozen BK657.out 1
                       have hfz248_2 := blk_frozen BK657.out 2
                       iterate 4 ((try go_wp2_with (first | (go_at_call 32; (with_reducible refine (impl_SignalText.calls t653 t654 t655 t692 true _ A245.out).mono ?_); rintro e w249 ⟨rfl, hb⟩; replace HB := bs hb; (try clear hb)))); (try go_quiet (fail)))
                       go_ret
                       exact ⟨rs, bw⟩
                      ·replace c246 := Bool.eq_false_iff.mpr c246
                       subst c246
                       rw [if_neg (show ¬ (false = true) by decide)] at H
                       exact absurd (Option.some.inj H) (by rw [HRT.out]; decide)
                     ·replace c244 := Bool.eq_false_iff.mpr c244
                      subst c244
                      rw [if_neg (show ¬ (false = true) by decide)] at H
                      obtain rfl := Option.some.inj H
                      go_wp2
                      repeat (go_quiet (fail); try go_wp2)
                      go_ret
                      exact ⟨rs, bw⟩

end Go.Proofs.YtmhbcfdodcnjmaaGreatDoor.PFnSignalsReach
