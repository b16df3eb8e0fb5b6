import Derived.Test.YteoklfgmdcofcaaDoorPFnOrdersTurnx0
import Derived.Test.YteoklfgmdcofcaaDoorPFnOrdersTurnx1
import Derived.Test.YteoklfgmdcofcaaDoorPFnOrdersTurnx2
import Derived.Test.YteoklfgmdcofcaaDoorPFnOrdersTurnx3
import Derived.Test.YteoklfgmdcofcaaDoorPFnOrdersTurnx4
import Derived.Test.YteoklfgmdcofcaaDoorPFnOrdersTurnx6
import Derived.Test.YteoklfgmdcofcaaDoorPFnOrdersTurnx7
import Derived.Test.YteoklfgmdcofcaaDoorPFnOrdersTurnx8
import Derived.Test.YteoklfgmdcofcaaDoorPFnOrdersTurnx9
-- Laid by xprint, a program of this session that runs over the kit's print.
namespace Go.Proofs.YteoklfgmdcofcaaDoor.PFnOrdersTurn
open Go.RowKit Go.Proofs.YteoklfgmdcofcaaDoorW.PrintWords Go.Proofs.YteoklfgmdcofcaaDoorW.PrintLast Go.Proofs.YteoklfgmdcofcaaDoorW.PrintMore Go.Proofs.YteoklfgmdcofcaaDoor.Sq
attribute [local go_sem] max2_int min2_int max_two min_two max_three min_three max_four min_four   -- for this text's walks alone
set_option linter.unusedVariables false
set_option linter.unusedSimpArgs false

/-! ### laws_FnOrdersTurn: its contract -/
set_option maxHeartbeats 80000000 in
set_option maxRecDepth 100000 in
theorem laws_FnOrdersTurn.calls (k : Nat) (A0 : Option Addr) (c0 : Nat) (l0 : List Int) (A1 : Option Addr) (c1 : Nat) (l1 : List Int) (r : Bool) (w : World) (hm : Dr.Tab w) (hr0 : Kd.C (Kd.int .u8) w A0 l0.length l0) (hc0 : l0.length ≤ c0) (hr1 : Kd.C (Kd.int .u8) w A1 l1.length l1) (hc1 : l1.length ≤ c1) (hrt : r = true) (h : laws_FnOrdersTurn.f k l0 l1 = some r) :
  Calls Tryd.prog 3 #[.slice A0 l0.length c0, .slice A1 l1.length c1] w fun e w' => e = .returned (.bool r) ∧ Below w.heap.size w w' := by
 have HR0 := Aside0.mk hr0
 have HC0 := Aside0.mk hc0
 clear hr0 hc0
 have HR1 := Aside0.mk hr1
 have HC1 := Aside0.mk hc1
 clear hr1 hc1
 have HB := Aside0.mk (Below.refl w.heap.size w)
 have HRT := Aside0.mk hrt
 clear hrt
 have HMM := Aside0.mk hm
 clear hm
 unfold laws_FnOrdersTurn.f at h
 have H := h
 clear h
 replace H := Option.bind_eq_some_iff.mp H
 obtain ⟨t402, A30, H⟩ := H
 (try dsimp only at H)
 have A3 := Aside0.mk A30
 clear A30
 by_cases c4 : t402 = true
 ·subst c4
  rw [if_pos rfl] at H
  obtain rfl := Option.some.inj H
  go_enter Tryd.func3, Tryd.ntmps3
  go_wp2_with (first | ((with_reducible refine gate_callee (f := 4) rfl ?_); refine gl (some 74) Tryd.func4 #[.slice A0 l0.length c0, .slice A1 l1.length c1] ?_; (with_reducible refine (laws_big.calls _ _ l0 _ _ l1 true _ ?side1 ?side2 ?side3 ?side4 A3.out).mono ?_); (case side1 => exact cr HR0); (case side2 => exact HC0.out); (case side3 => exact cr HR1); (case side4 => exact HC1.out); rintro e w' ⟨rfl, ⟨nd, rfl⟩⟩; refine ⟨_, rfl, ?_⟩))
  go_ret
  exact ⟨rs, bw⟩
 ·replace c4 := Bool.eq_false_iff.mpr c4
  subst c4
  rw [if_neg (show ¬ (false = true) by decide)] at H
  replace H := Option.bind_eq_some_iff.mp H
  obtain ⟨⟨t403, t404⟩, A50, H⟩ := H
  (try dsimp only at H)
  have A5 := Aside0.mk A50
  clear A50
  replace H := Option.bind_eq_some_iff.mp H
  obtain ⟨⟨t405, t406⟩, A60, H⟩ := H
  (try dsimp only at H)
  have A6 := Aside0.mk A60
  clear A60
  replace H := Option.bind_eq_some_iff.mp H
  obtain ⟨⟨t409, t410⟩, A70, H⟩ := H
  (try dsimp only at H)
  have A7 := Aside0.mk A70
  clear A70
  replace H := Option.bind_eq_some_iff.mp H
  obtain ⟨⟨t413, t414⟩, A80, H⟩ := H
  (try dsimp only at H)
  have A8 := Aside0.mk A80
  clear A80
  replace H := Option.bind_eq_some_iff.mp H
  obtain ⟨⟨t415, t416⟩, A90, H⟩ := H
  (try dsimp only at H)
  have A9 := Aside0.mk A90
  clear A90
  replace H := Option.bind_eq_some_iff.mp H
  obtain ⟨⟨t417, t418⟩, A100, H⟩ := H
  (try dsimp only at H)
  have A10 := Aside0.mk A100
  clear A100
  replace H := Option.bind_eq_some_iff.mp H
  obtain ⟨⟨t421, t422⟩, A110, H⟩ := H
  (try dsimp only at H)
  have A11 := Aside0.mk A110
  clear A110
  replace H := Option.bind_eq_some_iff.mp H
  obtain ⟨⟨t425, t426⟩, A120, H⟩ := H
  (try dsimp only at H)
  have A12 := Aside0.mk A120
  clear A120
  replace H := Option.bind_eq_some_iff.mp H
  obtain ⟨⟨t427, t428⟩, A130, H⟩ := H
  (try dsimp only at H)
  have A13 := Aside0.mk A130
  clear A130
  by_cases c14 : (t406 != t410) = true
  ·rw [if_pos c14] at H
   exact absurd (Option.some.inj H) (by rw [HRT.out]; decide)
  ·rw [if_neg c14] at H
   have c14b0 : (t406 != t410) = false := by simpa using c14
   (try (have c14b1 : decide (t406 = t410) = true := by simpa using c14))
   (try (have c14b2 : (t406 == t410) = true := by simpa using c14))
   clear c14
   replace H := Option.bind_eq_some_iff.mp H
   obtain ⟨t429, A150, H⟩ := H
   (try dsimp only at H)
   have A15 := Aside0.mk A150
   clear A150
   by_cases c16 : t429 = true
   ·subst c16
    rw [if_pos rfl] at H
    by_cases c17 : (t414 != t416) = true
    ·rw [if_pos c17] at H
     exact absurd (Option.some.inj H) (by rw [HRT.out]; decide)
    ·rw [if_neg c17] at H
     have c17b0 : (t414 != t416) = false := by simpa using c17
     (try (have c17b1 : decide (t414 = t416) = true := by simpa using c17))
     (try (have c17b2 : (t414 == t416) = true := by simpa using c17))
     clear c17
     by_cases c18 : t413 = t415
     ·rw [if_pos c18] at H
      have c18b0 : (t413 == t415) = true := beq_iff_eq.mpr c18
      have c18b1 : (t413 != t415) = false := bne_eq_false_iff_eq.mpr c18
      clear c18
      by_cases c19 : (t418 != t422) = true
      ·rw [if_pos c19] at H
       exact absurd (Option.some.inj H) (by rw [HRT.out]; decide)
      ·rw [if_neg c19] at H
       have c19b0 : (t418 != t422) = false := by simpa using c19
       (try (have c19b1 : decide (t418 = t422) = true := by simpa using c19))
       (try (have c19b2 : (t418 == t422) = true := by simpa using c19))
       clear c19
       replace H := Option.bind_eq_some_iff.mp H
       obtain ⟨t430, A200, H⟩ := H
       (try dsimp only at H)
       have A20 := Aside0.mk A200
       clear A200
       by_cases c21 : t430 = true
       ·subst c21
        rw [if_pos rfl] at H
        by_cases c22 : (t426 != t428) = true
        ·rw [if_pos c22] at H
         exact absurd (Option.some.inj H) (by rw [HRT.out]; decide)
        ·rw [if_neg c22] at H
         have c22b0 : (t426 != t428) = false := by simpa using c22
         (try (have c22b1 : decide (t426 = t428) = true := by simpa using c22))
         (try (have c22b2 : (t426 == t428) = true := by simpa using c22))
         clear c22
         by_cases c23 : t425 = t427
         ·rw [if_pos c23] at H
          have c23b0 : (t425 == t427) = true := beq_iff_eq.mpr c23
          have c23b1 : (t425 != t427) = false := bne_eq_false_iff_eq.mpr c23
          clear c23
          by_cases c24 : (t414 != t406) = true
          ·rw [if_pos c24] at H
           exact absurd (Option.some.inj H) (by rw [HRT.out]; decide)
          ·rw [if_neg c24] at H
           have c24b0 : (t414 != t406) = false := by simpa using c24
           (try (have c24b1 : decide (t414 = t406) = true := by simpa using c24))
           (try (have c24b2 : (t414 == t406) = true := by simpa using c24))
           clear c24
           by_cases c25 : (t418 != t406) = true
           ·rw [if_pos c25] at H
            exact absurd (Option.some.inj H) (by rw [HRT.out]; decide)
           ·rw [if_neg c25] at H
            have c25b0 : (t418 != t406) = false := by simpa using c25
            (try (have c25b1 : decide (t418 = t406) = true := by simpa using c25))
            (try (have c25b2 : (t418 == t406) = true := by simpa using c25))
            clear c25
            by_cases c26 : (t426 != t406) = true
            ·rw [if_pos c26] at H
             exact absurd (Option.some.inj H) (by rw [HRT.out]; decide)
            ·rw [if_neg c26] at H
             have c26b0 : (t426 != t406) = false := by simpa using c26
             (try (have c26b1 : decide (t426 = t406) = true := by simpa using c26))
             (try (have c26b2 : (t426 == t406) = true := by simpa using c26))
             clear c26
             have HC27 := Aside0.mk H
             clear H
             go_enter Tryd.func3, Tryd.ntmps3
             go_upto_if 183 with (first | ((with_reducible refine gate_callee (f := 4) rfl ?_); refine gl (some 74) Tryd.func4 #[.slice A0 l0.length c0, .slice A1 l1.length c1] ?_; (with_reducible refine (laws_big.calls _ _ l0 _ _ l1 false _ ?side1 ?side2 ?side3 ?side4 A3.out).mono ?_); (case side1 => exact cr HR0); (case side2 => exact HC0.out); (case side3 => exact cr HR1); (case side4 => exact HC1.out); rintro e w' ⟨rfl, ⟨nd, rfl⟩⟩; refine ⟨_, rfl, ?_⟩) | ((with_reducible refine gate_callee (f := 5) rfl ?_); refine gl (some 77) Tryd.func5 #[.slice A0 l0.length c0] ?_; (with_reducible refine (spec_DrawRunsTo.calls k _ _ l0 t403 t404 _ ?side1 ?side2 A5.out).mono ?_); (case side1 => exact cr HR0); (case side2 => exact HC0.out); rintro e w28 ⟨rfl, hb⟩; refine ⟨_, rfl, ?_⟩; replace HB := bs hb; (try clear hb)) | ((with_reducible refine gate_callee (f := 6) rfl ?_); refine gl (some 83) Tryd.func6 #[.string t403, .string t404] ?_; (with_reducible refine (impl_RunsTo.calls k t403 t404 t405 t406 _ A6.out).mono ?_); rintro e w29 ⟨v407, rfl, ho0, hb⟩; refine ⟨_, rfl, ?_⟩; have HO408 := Aside0.mk (Kd.N_lower (Kd.N_mono (ok' := fun k_ => True) (Kd.S_N (Kd.S_bound ho0)) (fun k_ hk_ => trivial)) (below_size bw)); replace HB := bs hb; (try clear hb); (try clear ho0)) | ((with_reducible refine gate_callee (f := 7) rfl ?_); refine gl (some 89) Tryd.func7 #[.string t403, .string t404] ?_; (with_reducible refine (spec_RunsTo.calls k t403 t404 t409 t410 _ A7.out).mono ?_); rintro e w30 ⟨v411, rfl, ho0, hb⟩; refine ⟨_, rfl, ?_⟩; have HO412 := Aside0.mk (Kd.N_lower (Kd.N_mono (ok' := fun k_ => some k_ ≠ (v407 : Value).ownBlock) (Kd.S_N (Kd.S_bound ho0)) (fun k_ hk_ => (Kd.fresh' (Kd.N_lt (by (with_reducible repeat (first | apply Kd.N_alloc | apply Kd.N_drewN | apply Kd.N_drew)); exact HO408.out)) k_ hk_.2.1))) (below_size bw)); replace HO408 := Aside0.mk (Kd.N_elder' (by (with_reducible repeat (first | apply Kd.N_alloc | apply Kd.N_drewN | apply Kd.N_drew)); exact HO408.out) (Kd.N_base (Kd.S_N ho0)) hb); replace HB := bs hb; (try clear hb); (try clear ho0)) | ((with_reducible refine gate_callee (f := 8) rfl ?_); refine gl (some 95) Tryd.func8 #[.string t403, .string t404] ?_; (with_reducible refine (impl_FewestRuns.calls k t403 t404 t413 t414 _ A8.out).mono ?_); rintro e w31 ⟨rfl, hb⟩; refine ⟨_, rfl, ?_⟩; replace HO408 := Aside0.mk (Kd.N_below (by (with_reducible repeat (first | apply Kd.N_alloc | apply Kd.N_drewN | apply Kd.N_drew)); exact HO408.out) hb); replace HO412 := Aside0.mk (Kd.N_below (by (with_reducible repeat (first | apply Kd.N_alloc | apply Kd.N_drewN | apply Kd.N_drew)); exact HO412.out) hb); replace HB := bs hb; (try clear hb)) | ((with_reducible refine gate_callee (f := 9) rfl ?_); refine gl (some 101) Tryd.func9 #[.string t403, .string t404] ?_; (with_reducible refine (spec_FewestRuns.calls k t403 t404 t415 t416 _ A9.out).mono ?_); rintro e w32 ⟨rfl, hb⟩; refine ⟨_, rfl, ?_⟩; replace HO408 := Aside0.mk (Kd.N_below (by (with_reducible repeat (first | apply Kd.N_alloc | apply Kd.N_drewN | apply Kd.N_drew)); exact HO408.out) hb); replace HO412 := Aside0.mk (Kd.N_below (by (with_reducible repeat (first | apply Kd.N_alloc | apply Kd.N_drewN | apply Kd.N_drew)); exact HO412.out) hb); replace HB := bs hb; (try clear hb)) | ((with_reducible refine gate_callee (f := 10) rfl ?_); refine gl (some 107) Tryd.func10 #[.string t403, .string t404] ?_; (with_reducible refine (impl_FirstsTo.calls k t403 t404 t417 t418 _ A10.out).mono ?_); rintro e w33 ⟨v419, rfl, ho0, hb⟩; refine ⟨_, rfl, ?_⟩; replace HO408 := Aside0.mk (Kd.N_elder' (by (with_reducible repeat (first | apply Kd.N_alloc | apply Kd.N_drewN | apply Kd.N_drew)); exact HO408.out) (Kd.R_base ho0) hb); replace HO412 := Aside0.mk (Kd.N_elder' (by (with_reducible repeat (first | apply Kd.N_alloc | apply Kd.N_drewN | apply Kd.N_drew)); exact HO412.out) (Kd.R_base ho0) hb); have HO420 := Aside0.mk (Kd.R_lower ho0 (below_size bw)); replace HB := bs hb; (try clear hb); (try clear ho0)) | ((with_reducible refine gate_callee (f := 11) rfl ?_); refine gl (some 113) Tryd.func11 #[.string t403, .string t404] ?_; (with_reducible refine (spec_FirstsTo.calls k t403 t404 t421 t422 _ A11.out).mono ?_); rintro e w34 ⟨v423, rfl, ho0, hb⟩; refine ⟨_, rfl, ?_⟩; replace HO408 := Aside0.mk (Kd.N_elder' (by (with_reducible repeat (first | apply Kd.N_alloc | apply Kd.N_drewN | apply Kd.N_drew)); exact HO408.out) (Kd.R_base ho0) hb); replace HO412 := Aside0.mk (Kd.N_elder' (by (with_reducible repeat (first | apply Kd.N_alloc | apply Kd.N_drewN | apply Kd.N_drew)); exact HO412.out) (Kd.R_base ho0) hb); have HO424 := Aside0.mk (Kd.R_lower (Kd.R_new' ho0 (Kd.R_lt (pr HO420))) (below_size bw)); replace HO420 := re HO420 ho0 hb; replace HB := bs hb; (try clear hb); (try clear ho0)) | ((with_reducible refine gate_callee (f := 12) rfl ?_); refine gl (some 119) Tryd.func12 #[.string t403, .string t404] ?_; (with_reducible refine (impl_FewestFirst.calls k t403 t404 t425 t426 _ A12.out).mono ?_); rintro e w35 ⟨rfl, hb⟩; refine ⟨_, rfl, ?_⟩; replace HO408 := Aside0.mk (Kd.N_below (by (with_reducible repeat (first | apply Kd.N_alloc | apply Kd.N_drewN | apply Kd.N_drew)); exact HO408.out) hb); replace HO412 := Aside0.mk (Kd.N_below (by (with_reducible repeat (first | apply Kd.N_alloc | apply Kd.N_drewN | apply Kd.N_drew)); exact HO412.out) hb); replace HO420 := rl HO420 hb; replace HO424 := rl HO424 hb; replace HB := bs hb; (try clear hb)) | ((with_reducible refine gate_callee (f := 13) rfl ?_); refine gl (some 125) Tryd.func13 #[.string t403, .string t404] ?_; (with_reducible refine (spec_FewestFirst.calls k t403 t404 t427 t428 _ A13.out).mono ?_); rintro e w36 ⟨rfl, hb⟩; refine ⟨_, rfl, ?_⟩; replace HO408 := Aside0.mk (Kd.N_below (by (with_reducible repeat (first | apply Kd.N_alloc | apply Kd.N_drewN | apply Kd.N_drew)); exact HO408.out) hb); replace HO412 := Aside0.mk (Kd.N_below (by (with_reducible repeat (first | apply Kd.N_alloc | apply Kd.N_drewN | apply Kd.N_drew)); exact HO412.out) hb); replace HO420 := rl HO420 hb; replace HO424 := rl HO424 hb; replace HB := bs hb; (try clear hb); obtain ⟨Ao37, co37, eo37⟩ := Kd.N_slice HO408.out; subst eo37; obtain ⟨Ao38, co38, eo38⟩ := Kd.N_slice HO412.out; subst eo38) | (go_at_call 14; (with_reducible refine (laws_mRows.calls k _ _ t405 _ _ t409 true _ ?side1 ?side2 ?side3 ?side4 A15.out).mono ?_); (case side1 => repeat (first | exact (Kd.N_reads' HO408.out).2.2 | (with_reducible refine Kd.C_alloc ?_ _) | (with_reducible refine Kd.C_drewN ?_ _) | (with_reducible refine Kd.C_drew ?_))); (case side2 => exact (Kd.N_reads' HO408.out).2.1); (case side3 => repeat (first | exact (Kd.N_reads' HO412.out).2.2 | (with_reducible refine Kd.C_alloc ?_ _) | (with_reducible refine Kd.C_drewN ?_ _) | (with_reducible refine Kd.C_drew ?_))); (case side4 => exact (Kd.N_reads' HO412.out).2.1); rintro e w' ⟨rfl, ⟨nd, rfl⟩⟩; obtain ⟨Ao39, co39, eo39⟩ := Kd.R_slice HO420.out; subst eo39; obtain ⟨Ao40, co40, eo40⟩ := Kd.R_slice HO424.out; subst eo40) | (go_at_call 15; (with_reducible refine (laws_mSame.calls k _ _ t417 _ _ t421 true _ ?side1 ?side2 ?side3 ?side4 A20.out).mono ?_); (case side1 => exact rr HO420); (case side2 => exact rn HO420); (case side3 => exact rr HO424); (case side4 => exact rn HO424); rintro e w' ⟨rfl, ⟨nd, rfl⟩⟩))
             (try simp only [Act.put, List.setIfInBounds_toArray, List.set_cons_zero, List.set_cons_succ])
             go_cut [127, 128, 129, 130, 131, 134, 135, 136, 137, 138, 139, 140, 141, 142, 145, 146, 147, 148, 149, 150, 151, 152, 155, 156, 157, 158, 159, 160, 161, 162, 163, 166, 167, 168, 169, 170, 171, 172, 173, 174, 175, 176, 177, 178, 179, 180, 181, 182, 183] from 9999 (fun _ _ _ _ _ _ _ _ _ _ _ _ _ _ _ _ _ _ _ _ _ _ _ _ _ _ _ _ _ _ _ _ _ _ _ _ _ _ _ _ _ _ _ _ _ _ _ _ _ wc => ∃ (kq : Nat), Aside0 (laws_FnOrdersTurn.j1 kq l1 = some r) ∧ Aside0 (kq ≤ k) ∧ Aside0 (Below w.heap.size w wc))
             case first => as_aux_lemma =>
              have H := HC27.out
              clear HC27
              by_cases c41 : t406 = true
              ·subst c41
               rw [if_pos rfl] at H
               replace H := Option.bind_eq_some_iff.mp H
               obtain ⟨⟨t431, t432⟩, A420, H⟩ := H
               (try dsimp only at H)
               have A42 := Aside0.mk A420
               clear A420
               replace H := Option.bind_eq_some_iff.mp H
               obtain ⟨⟨t433, t434⟩, A430, H⟩ := H
               (try dsimp only at H)
               have A43 := Aside0.mk A430
               clear A430
               by_cases c44 : t432 = true
               ·subst c44
                rw [if_pos rfl] at H
                by_cases c45 : t431.toList = t404.toList
                ·rw [if_pos c45] at H
                 have c45b0 : (t431.toList == t404.toList) = true := beq_iff_eq.mpr c45
                 have c45b1 : (t431.toList != t404.toList) = false := bne_eq_false_iff_eq.mpr c45
                 clear c45
                 (first | rw [c45b0] | rw [@decide_eq_true _ _ (of_decide_eq_true c45b1)] | rw [@decide_eq_false _ _ (of_decide_eq_false c45b1)] | (simp only [i64_w, i32_w]; rw [c45b0]) | skip)
                 by_cases c46 : (t405.length : Int) = t413
                 ·rw [if_pos c46] at H
                  have c46b0 : ((t405.length : Int) == t413) = true := beq_iff_eq.mpr c46
                  have c46b1 : ((t405.length : Int) != t413) = false := bne_eq_false_iff_eq.mpr c46
                  clear c46
                  by_cases c47 : t434 = true
                  ·subst c47
                   rw [if_pos rfl] at H
                   by_cases c48 : t413 > t433
                   ·rw [if_pos c48] at H
                    exact absurd (Option.some.inj H) (by rw [HRT.out]; decide)
                   ·rw [if_neg c48] at H
                    have c48b0 : decide (t433 < t413) = false := decide_eq_false c48
                    clear c48
                    by_cases c49 : (t417.length : Int) = t425
                    ·rw [if_pos c49] at H
                     have c49b0 : ((t417.length : Int) == t425) = true := beq_iff_eq.mpr c49
                     have c49b1 : ((t417.length : Int) != t425) = false := bne_eq_false_iff_eq.mpr c49
                     clear c49
                     replace H := Option.bind_eq_some_iff.mp H
                     obtain ⟨t435, A500, H⟩ := H
                     (try dsimp only at H)
                     have A50 := Aside0.mk A500
                     clear A500
                     by_cases c51 : t435 = true
                     ·subst c51
                      rw [if_pos rfl] at H
                      by_cases c52 : t425 < t413
                      ·rw [if_pos c52] at H
                       exact absurd (Option.some.inj H) (by rw [HRT.out]; decide)
                      ·rw [if_neg c52] at H
                       have c52b0 : decide (t425 < t413) = false := decide_eq_false c52
                       clear c52
                       by_cases c53 : t425 > (wrap64 (2 * t413))
                       ·rw [if_pos c53] at H
                        exact absurd (Option.some.inj H) (by rw [HRT.out]; decide)
                       ·rw [if_neg c53] at H
                        have c53b0 : decide ((wrap64 (2 * t413)) < t425) = false := decide_eq_false c53
                        clear c53
                        have H' := Aside0.mk H
                        clear H
                        go_wp2_with (first | ((with_reducible refine gate_callee (f := 16) rfl ?_); refine gl (some 187) Tryd.func16 #[.string t403, .slice Ao37 t405.length co37] ?_; (with_reducible refine (impl_PlayRuns.calls k t403 _ _ t405 t431 true _ ?side1 ?side2 ?side3 A42.out).mono ?_); (case side1 => exact Dr.mm HMM); (case side2 => repeat (first | exact (Kd.N_reads' HO408.out).2.2 | (with_reducible refine Kd.C_alloc ?_ _) | (with_reducible refine Kd.C_drewN ?_ _) | (with_reducible refine Kd.C_drew ?_))); (case side3 => exact (Kd.N_reads' HO408.out).2.1); rintro e w54 ⟨rfl, hb⟩; refine ⟨_, rfl, ?_⟩; replace HO408 := Aside0.mk (Kd.N_below (by (with_reducible repeat (first | apply Kd.N_alloc | apply Kd.N_drewN | apply Kd.N_drew)); exact HO408.out) hb); replace HO412 := Aside0.mk (Kd.N_below (by (with_reducible repeat (first | apply Kd.N_alloc | apply Kd.N_drewN | apply Kd.N_drew)); exact HO412.out) hb); replace HO420 := rl HO420 hb; replace HO424 := rl HO424 hb; replace HB := bs hb; (try clear hb)) | ((with_reducible refine gate_callee (f := 17) rfl ?_); refine gl (some 193) Tryd.func17 #[.int .i64 (t403.size : Int)] ?_; (with_reducible refine (impl_MostRuns.calls (t403.size : Int) t433 true _ A43.out).mono ?_); rintro e w' ⟨rfl, ⟨nd, rfl⟩⟩; refine ⟨_, rfl, ?_⟩) | (go_at_call 18; (with_reducible refine (laws_mRises.calls k _ _ t417 true _ ?side1 ?side2 A50.out).mono ?_); (case side1 => exact rr HO420); (case side2 => exact rn HO420); rintro e w' ⟨rfl, ⟨nd, rfl⟩⟩))
                        go_loopg [27, 243] k (fun kq v27 v243 w' => ∃ (x27_1 : ByteArray) (x243_1 : Int), v27 = .string x27_1 ∧ v243 = .int .i64 x243_1 ∧ Aside0 (laws_FnOrdersTurn.l0 kq l1 t403 t404 t413 x27_1 t417 (t417.length : Int) x243_1 = some r) ∧ Aside0 (kq ≤ k) ∧ Aside0 (Kd.R (Kd.int .i64) 3 w' w.heap.size (fun _ => True) (.slice Ao39 t417.length co39) t417) ∧ Aside0 (Below w.heap.size w w'))
                        case atStart => exact ⟨(t403), (0), (rs), (rs), H', ⟨Nat.le_refl _⟩, ⟨by (with_reducible repeat (first | apply Kd.R_alloc | apply Kd.R_drewN | apply Kd.R_drew)); exact Kd.R_mono HO420.out (fun _ hk => trivial)⟩, ⟨bw⟩⟩
                        case round =>
                         clear H'
                         repeat (first|clear c1|clear c2|clear p2|clear c3|clear c4|clear c5|clear c6|clear p6|clear c7|clear c8|clear c9|clear c10|clear c11|clear c12|clear c13|clear c14|clear c14b0|clear c14b1|clear c14b2|clear c16|clear c17|clear c17b0|clear c17b1|clear c17b2|clear c18|clear c18b0|clear c18b1|clear c19|clear c19b0|clear c19b1|clear c19b2|clear c21|clear c22|clear c22b0|clear c22b1|clear c22b2|clear c23|clear c23b0|clear c23b1|clear c24|clear c24b0|clear c24b1|clear c24b2|clear c25|clear c25b0|clear c25b1|clear c25b2|clear c26|clear c26b0|clear c26b1|clear c26b2|clear c41|clear c44|clear c45|clear c45b0|clear c45b1|clear c46|clear c46b0|clear c46b1|clear c47|clear c48|clear c48b0|clear c49|clear c49b0|clear c49b1|clear c51|clear c52|clear c52b0|clear c53|clear c53b0)
                         obtain ⟨x27_1, x243_1, rfl, rfl, HA, HK1, HO_241, HB⟩ := hrel
                         cases gk with
                         | zero => exact absurd HA.out (by simp [laws_FnOrdersTurn.l0])
                         | succ k1 =>
                          have H := HA.out
                          clear HA
                          simp only [laws_FnOrdersTurn.l0] at H
                          by_cases c55 : x243_1 < (t417.length : Int)
                          ·rw [if_pos c55] at H
                           have c55b0 : decide (x243_1 < (t417.length : Int)) = true := decide_eq_true c55
                           clear c55
                           by_cases c56 : 0 ≤ x243_1
                           ·rw [if_pos c56] at H
                            have c56b0 : decide (0 ≤ x243_1) = true := decide_eq_true c56
                            clear c56
                            by_cases c57 : x243_1 < (t417.length : Int)
                            ·rw [if_pos c57] at H
                             have c57b0 : decide (x243_1 < (t417.length : Int)) = true := decide_eq_true c57
                             clear c57
                             replace H := Option.bind_eq_some_iff.mp H
                             obtain ⟨⟨t437, t438⟩, A580, H⟩ := H
                             (try dsimp only at H)
                             have A58 := Aside0.mk A580
                             clear A580
                             by_cases c59 : t438 = true
                             ·subst c59
                              rw [if_pos rfl] at H
                              have H' := Aside0.mk H
                              clear H
                              have p436 : 0 ≤ (x243_1 : Int) := of_decide_eq_true asm
                              have q436 : x243_1 < (t417.length : Int) := of_decide_eq_true asm
                              obtain ⟨ad436, e436, hx436_0⟩ := Kd.at_int (Kd.R_reads' HO_241.out).2.2 x243_1 p436 q436
                              cases e436
                              replace p436 := eq_true p436
                              replace q436 := eq_true q436
                              go_wp2_with (first | ((with_reducible refine gate_callee (f := 19) rfl ?_); refine gl (some 250) Tryd.func19 #[.string x27_1, .int .i64 (rd t417 x243_1)] ?_; (with_reducible refine (impl_TurnFirst.calls x27_1 (rd t417 x243_1) t437 true _ ?side1 A58.out).mono ?_); (case side1 => exact Dr.mm HMM); rintro e w60 ⟨rfl, hb⟩; refine ⟨_, rfl, ?_⟩; replace HO_241 := rl HO_241 hb; replace HB := bs hb; (try clear hb)))
                              go_roundg k1
                              case measure => have := HK1.out; omega
                              case rel => exact ⟨(t437), (wrap64 (x243_1 + 1)), (rs), (rs), H', ⟨by have := HK1.out; omega⟩, ⟨pr HO_241⟩, ⟨bw⟩⟩
                             ·replace c59 := Bool.eq_false_iff.mpr c59
                              subst c59
                              rw [if_neg (show ¬ (false = true) by decide)] at H
                              exact absurd (Option.some.inj H) (by rw [HRT.out]; decide)
                            ·rw [if_neg c57] at H
                             exact absurd H (by simp)
                           ·rw [if_neg c56] at H
                            exact absurd H (by simp)
                          ·rw [if_neg c55] at H
                           have c55b0 : decide (x243_1 < (t417.length : Int)) = false := decide_eq_false c55
                           clear c55
                           by_cases c61 : x27_1.toList = t404.toList
                           ·rw [if_pos c61] at H
                            have c61b0 : (x27_1.toList == t404.toList) = true := beq_iff_eq.mpr c61
                            have c61b1 : (x27_1.toList != t404.toList) = false := bne_eq_false_iff_eq.mpr c61
                            clear c61
                            by_cases c62 : (t403.size : Int) > 1
                            ·rw [if_pos c62] at H
                             have c62b0 : decide (1 < (t403.size : Int)) = true := decide_eq_true c62
                             have c62b1 : decide (1 < t403.size) = true := decide_eq_true (by omega)
                             clear c62
                             replace H := Option.bind_eq_some_iff.mp H
                             obtain ⟨⟨t439, t440⟩, A630, H⟩ := H
                             (try dsimp only at H)
                             have A63 := Aside0.mk A630
                             clear A630
                             replace H := Option.bind_eq_some_iff.mp H
                             obtain ⟨⟨t441, t442⟩, A640, H⟩ := H
                             (try dsimp only at H)
                             have A64 := Aside0.mk A640
                             clear A640
                             by_cases c65 : t440 = true
                             ·subst c65
                              rw [if_pos rfl] at H
                              by_cases c66 : t442 = true
                              ·subst c66
                               rw [if_pos rfl] at H
                               by_cases c67 : t441 < (wrap64 (t413 - 1))
                               ·rw [if_pos c67] at H
                                exact absurd (Option.some.inj H) (by rw [HRT.out]; decide)
                               ·rw [if_neg c67] at H
                                have c67b0 : decide (t441 < (wrap64 (t413 - 1))) = false := decide_eq_false c67
                                clear c67
                                by_cases c68 : t441 > (wrap64 (t413 + 1))
                                ·rw [if_pos c68] at H
                                 exact absurd (Option.some.inj H) (by rw [HRT.out]; decide)
                                ·rw [if_neg c68] at H
                                 have c68b0 : decide ((wrap64 (t413 + 1)) < t441) = false := decide_eq_false c68
                                 clear c68
                                 have H' := Aside0.mk H
                                 clear H
                                 go_wp2_with (first | ((with_reducible refine gate_callee (f := 20) rfl ?_); refine gl (some 268) Tryd.func20 #[.string t403, .int .i64 0, .int .i64 (wrap64 ((t403.size : Int) / 2))] ?_; (with_reducible refine (impl_TurnRun.calls t403 0 (wrap64 ((t403.size : Int) / 2)) t439 true _ ?side1 A63.out).mono ?_); (case side1 => exact Dr.mm HMM); rintro e w69 ⟨rfl, hb⟩; refine ⟨_, rfl, ?_⟩; replace HO_241 := rl HO_241 hb; replace HB := bs hb; (try clear hb)) | ((with_reducible refine gate_callee (f := 8) rfl ?_); refine gl (some 274) Tryd.func8 #[.string t439, .string t404] ?_; (with_reducible refine (impl_FewestRuns.calls k1 t439 t404 t441 true _ A64.out).mono ?_); rintro e w70 ⟨rfl, hb⟩; refine ⟨_, rfl, ?_⟩; replace HO_241 := rl HO_241 hb; replace HB := bs hb; (try clear hb)))
                                 go_meet
                                 case rel => exact ⟨_, H', ⟨by have := HK1.out; first | omega | exact Nat.le_refl _⟩, ⟨bw⟩⟩
                              ·replace c66 := Bool.eq_false_iff.mpr c66
                               subst c66
                               rw [if_neg (show ¬ (false = true) by decide)] at H
                               exact absurd (Option.some.inj H) (by rw [HRT.out]; decide)
                             ·replace c65 := Bool.eq_false_iff.mpr c65
                              subst c65
                              rw [if_neg (show ¬ (false = true) by decide)] at H
                              exact absurd (Option.some.inj H) (by rw [HRT.out]; decide)
                            ·rw [if_neg c62] at H
                             have c62b0 : decide (1 < (t403.size : Int)) = false := decide_eq_false c62
                             have c62b1 : decide (1 < t403.size) = false := decide_eq_false (by omega)
                             clear c62
                             have H' := Aside0.mk H
                             clear H
                             go_wp2
                             go_meet
                             case rel => exact ⟨_, H', ⟨by have := HK1.out; first | omega | exact Nat.le_refl _⟩, ⟨bw⟩⟩
                           ·rw [if_neg c61] at H
                            exact absurd (Option.some.inj H) (by rw [HRT.out]; decide)
                     ·replace c51 := Bool.eq_false_iff.mpr c51
                      subst c51
                      rw [if_neg (show ¬ (false = true) by decide)] at H
                      exact absurd (Option.some.inj H) (by rw [HRT.out]; decide)
                    ·rw [if_neg c49] at H
                     exact absurd (Option.some.inj H) (by rw [HRT.out]; decide)
                  ·replace c47 := Bool.eq_false_iff.mpr c47
                   subst c47
                   rw [if_neg (show ¬ (false = true) by decide)] at H
                   exact absurd (Option.some.inj H) (by rw [HRT.out]; decide)
                 ·rw [if_neg c46] at H
                  exact absurd (Option.some.inj H) (by rw [HRT.out]; decide)
                ·rw [if_neg c45] at H
                 exact absurd (Option.some.inj H) (by rw [HRT.out]; decide)
               ·replace c44 := Bool.eq_false_iff.mpr c44
                subst c44
                rw [if_neg (show ¬ (false = true) by decide)] at H
                exact absurd (Option.some.inj H) (by rw [HRT.out]; decide)
              ·replace c41 := Bool.eq_false_iff.mpr c41
               subst c41
               rw [if_neg (show ¬ (false = true) by decide)] at H
               have H' := Aside0.mk H
               clear H
               go_wp2
               go_meet
               case rel => exact ⟨_, H', ⟨by first | omega | exact Nat.le_refl _⟩, ⟨bw⟩⟩
             case rest =>
              clear HC27
              repeat (first|clear c1|clear c2|clear p2|clear c3|clear c4|clear p4|clear q4|clear hx4|clear c5|clear c6|clear p6|clear c7|clear c8|clear c9|clear c10|clear c11|clear c12|clear c13|clear c14|clear c14b0|clear c14b1|clear c14b2|clear c16|clear c17|clear c17b0|clear c17b1|clear c17b2|clear c18|clear c18b0|clear c18b1|clear c19|clear c19b0|clear c19b1|clear c19b2|clear c20|clear c21|clear c22|clear c22b0|clear c22b1|clear c22b2|clear c23|clear c23b0|clear c23b1|clear c24|clear c24b0|clear c24b1|clear c24b2|clear c25|clear c25b0|clear c25b1|clear c25b2|clear c26|clear c26b0|clear c26b1|clear c26b2|clear c41|clear p43|clear q43|clear hx43|clear c44|clear c45|clear c45b0|clear c45b1|clear c46|clear c46b0|clear c46b1|clear c47|clear c48|clear c48b0|clear c49|clear c49b0|clear c49b1|clear c51|clear c52|clear c52b0|clear c53|clear c53b0|clear c55|clear c55b0|clear c56|clear c56b0|clear c57|clear c57b0|clear c59|clear c61|clear c61b0|clear c61b1|clear c62|clear c62b0|clear c62b1|clear p64|clear c65|clear c66|clear c67|clear c67b0|clear c68|clear c68b0|clear hx436_0|clear p436|clear q436)
              obtain ⟨kq, HA, HJ26, HB⟩ := hcut
              cases kq with
              | zero => exact absurd HA.out (by simp [laws_FnOrdersTurn.j1])
              | succ kj26 =>
               have H := HA.out
               clear HA
               simp only [laws_FnOrdersTurn.j1] at H
               replace H := Option.bind_eq_some_iff.mp H
               obtain ⟨⟨t443, t444, t445⟩, A710, H⟩ := H
               (try dsimp only at H)
               have A71 := Aside0.mk A710
               clear A710
               replace H := Option.bind_eq_some_iff.mp H
               obtain ⟨⟨t446, t447⟩, A720, H⟩ := H
               (try dsimp only at H)
               have A72 := Aside0.mk A720
               clear A720
               replace H := Option.bind_eq_some_iff.mp H
               obtain ⟨⟨t448, t449⟩, A730, H⟩ := H
               (try dsimp only at H)
               have A73 := Aside0.mk A730
               clear A730
               replace H := Option.bind_eq_some_iff.mp H
               obtain ⟨⟨t450, t451⟩, A740, H⟩ := H
               (try dsimp only at H)
               have A74 := Aside0.mk A740
               clear A740
               replace H := Option.bind_eq_some_iff.mp H
               obtain ⟨⟨t452, t453⟩, A750, H⟩ := H
               (try dsimp only at H)
               have A75 := Aside0.mk A750
               clear A750
               replace H := Option.bind_eq_some_iff.mp H
               obtain ⟨⟨t454, t455⟩, A760, H⟩ := H
               (try dsimp only at H)
               have A76 := Aside0.mk A760
               clear A760
               replace H := Option.bind_eq_some_iff.mp H
               obtain ⟨⟨t456, t457⟩, A770, H⟩ := H
               (try dsimp only at H)
               have A77 := Aside0.mk A770
               clear A770
               replace H := Option.bind_eq_some_iff.mp H
               obtain ⟨⟨t458, t459⟩, A780, H⟩ := H
               (try dsimp only at H)
               have A78 := Aside0.mk A780
               clear A780
               replace H := Option.bind_eq_some_iff.mp H
               obtain ⟨⟨t460, t461⟩, A790, H⟩ := H
               (try dsimp only at H)
               have A79 := Aside0.mk A790
               clear A790
               replace H := Option.bind_eq_some_iff.mp H
               obtain ⟨⟨t464, t465⟩, A800, H⟩ := H
               (try dsimp only at H)
               have A80 := Aside0.mk A800
               clear A800
               replace H := Option.bind_eq_some_iff.mp H
               obtain ⟨⟨t466, t467⟩, A810, H⟩ := H
               (try dsimp only at H)
               have A81 := Aside0.mk A810
               clear A810
               replace H := Option.bind_eq_some_iff.mp H
               obtain ⟨t468, A820, H⟩ := H
               (try dsimp only at H)
               have A82 := Aside0.mk A820
               clear A820
               replace H := Option.bind_eq_some_iff.mp H
               obtain ⟨⟨t469, t470⟩, A830, H⟩ := H
               (try dsimp only at H)
               have A83 := Aside0.mk A830
               clear A830
               replace H := Option.bind_eq_some_iff.mp H
               obtain ⟨⟨t471, t472⟩, A840, H⟩ := H
               (try dsimp only at H)
               have A84 := Aside0.mk A840
               clear A840
               by_cases c85 : (t447 != t449) = true
               ·rw [if_pos c85] at H
                exact absurd (Option.some.inj H) (by rw [HRT.out]; decide)
               ·rw [if_neg c85] at H
                have c85b0 : (t447 != t449) = false := by simpa using c85
                (try (have c85b1 : decide (t447 = t449) = true := by simpa using c85))
                (try (have c85b2 : (t447 == t449) = true := by simpa using c85))
                clear c85
                by_cases c86 : t446.toList = t448.toList
                ·rw [if_pos c86] at H
                 have c86b0 : (t446.toList == t448.toList) = true := beq_iff_eq.mpr c86
                 have c86b1 : (t446.toList != t448.toList) = false := bne_eq_false_iff_eq.mpr c86
                 clear c86
                 by_cases c87 : (t453 != t455) = true
                 ·rw [if_pos c87] at H
                  exact absurd (Option.some.inj H) (by rw [HRT.out]; decide)
                 ·rw [if_neg c87] at H
                  have c87b0 : (t453 != t455) = false := by simpa using c87
                  (try (have c87b1 : decide (t453 = t455) = true := by simpa using c87))
                  (try (have c87b2 : (t453 == t455) = true := by simpa using c87))
                  clear c87
                  by_cases c88 : t452.toList = t454.toList
                  ·rw [if_pos c88] at H
                   have c88b0 : (t452.toList == t454.toList) = true := beq_iff_eq.mpr c88
                   have c88b1 : (t452.toList != t454.toList) = false := bne_eq_false_iff_eq.mpr c88
                   clear c88
                   by_cases c89 : (t457 != t459) = true
                   ·rw [if_pos c89] at H
                    exact absurd (Option.some.inj H) (by rw [HRT.out]; decide)
                   ·rw [if_neg c89] at H
                    have c89b0 : (t457 != t459) = false := by simpa using c89
                    (try (have c89b1 : decide (t457 = t459) = true := by simpa using c89))
                    (try (have c89b2 : (t457 == t459) = true := by simpa using c89))
                    clear c89
                    by_cases c90 : t456.toList = t458.toList
                    ·rw [if_pos c90] at H
                     have c90b0 : (t456.toList == t458.toList) = true := beq_iff_eq.mpr c90
                     have c90b1 : (t456.toList != t458.toList) = false := bne_eq_false_iff_eq.mpr c90
                     clear c90
                     by_cases c91 : (t465 != t467) = true
                     ·rw [if_pos c91] at H
                      exact absurd (Option.some.inj H) (by rw [HRT.out]; decide)
                     ·rw [if_neg c91] at H
                      have c91b0 : (t465 != t467) = false := by simpa using c91
                      (try (have c91b1 : decide (t465 = t467) = true := by simpa using c91))
                      (try (have c91b2 : (t465 == t467) = true := by simpa using c91))
                      clear c91
                      by_cases c92 : t464.toList = t466.toList
                      ·rw [if_pos c92] at H
                       have c92b0 : (t464.toList == t466.toList) = true := beq_iff_eq.mpr c92
                       have c92b1 : (t464.toList != t466.toList) = false := bne_eq_false_iff_eq.mpr c92
                       clear c92
                       by_cases c93 : (t470 != t472) = true
                       ·rw [if_pos c93] at H
                        exact absurd (Option.some.inj H) (by rw [HRT.out]; decide)
                       ·rw [if_neg c93] at H
                        have c93b0 : (t470 != t472) = false := by simpa using c93
                        (try (have c93b1 : decide (t470 = t472) = true := by simpa using c93))
                        (try (have c93b2 : (t470 == t472) = true := by simpa using c93))
                        clear c93
                        by_cases c94 : t469 = t471
                        ·rw [if_pos c94] at H
                         have c94b0 : (t469 == t471) = true := beq_iff_eq.mpr c94
                         have c94b1 : (t469 != t471) = false := bne_eq_false_iff_eq.mpr c94
                         clear c94
                         have HC95 := Aside0.mk H
                         clear H
                         go_upto_if 421 with (first | ((with_reducible refine gate_callee (f := 21) rfl ?_); refine gl (some 297) Tryd.func21 #[.slice A1 l1.length c1] ?_; (with_reducible refine (spec_DrawTurnRun.calls kj26 _ _ l1 t443 t444 t445 _ ?side1 ?side2 A71.out).mono ?_); (case side1 => exact cb HR1); (case side2 => exact HC1.out); rintro e w96 ⟨rfl, hb⟩; refine ⟨_, rfl, ?_⟩; replace HB := bs hb; (try clear hb)) | ((with_reducible refine gate_callee (f := 20) rfl ?_); refine gl (some 305) Tryd.func20 #[.string t443, .int .i64 t444, .int .i64 t445] ?_; (with_reducible refine (impl_TurnRun.calls t443 t444 t445 t446 t447 _ ?side1 A72.out).mono ?_); (case side1 => exact Dr.mm HMM); rintro e w97 ⟨rfl, hb⟩; refine ⟨_, rfl, ?_⟩; replace HB := bs hb; (try clear hb)) | ((with_reducible refine gate_callee (f := 22) rfl ?_); refine gl (some 312) Tryd.func22 #[.string t443, .int .i64 t444, .int .i64 t445] ?_; (with_reducible refine (spec_TurnRun.calls kj26 t443 t444 t445 t448 t449 _ A73.out).mono ?_); rintro e w' ⟨rfl, ⟨nd, rfl⟩⟩; refine ⟨_, rfl, ?_⟩) | ((with_reducible refine gate_callee (f := 23) rfl ?_); refine gl (some 317) Tryd.func23 #[.slice A1 l1.length c1] ?_; (with_reducible refine (spec_DrawTurnFirst.calls kj26 _ _ l1 t450 t451 _ ?side1 ?side2 A74.out).mono ?_); (case side1 => exact cb HR1); (case side2 => exact HC1.out); rintro e w98 ⟨rfl, hb⟩; refine ⟨_, rfl, ?_⟩; replace HB := bs hb; (try clear hb)) | ((with_reducible refine gate_callee (f := 19) rfl ?_); refine gl (some 323) Tryd.func19 #[.string t450, .int .i64 t451] ?_; (with_reducible refine (impl_TurnFirst.calls t450 t451 t452 t453 _ ?side1 A75.out).mono ?_); (case side1 => exact Dr.mm HMM); rintro e w99 ⟨rfl, hb⟩; refine ⟨_, rfl, ?_⟩; replace HB := bs hb; (try clear hb)) | ((with_reducible refine gate_callee (f := 24) rfl ?_); refine gl (some 329) Tryd.func24 #[.string t450, .int .i64 t451] ?_; (with_reducible refine (spec_TurnFirst.calls kj26 t450 t451 t454 t455 _ A76.out).mono ?_); rintro e w' ⟨rfl, ⟨nd, rfl⟩⟩; refine ⟨_, rfl, ?_⟩) | ((with_reducible refine gate_callee (f := 25) rfl ?_); refine gl (some 335) Tryd.func25 #[.string t450, .int .i64 t451] ?_; (with_reducible refine (impl_TurnAround.calls t450 t451 t456 t457 _ ?side1 A77.out).mono ?_); (case side1 => exact Dr.mm HMM); rintro e w100 ⟨rfl, hb⟩; refine ⟨_, rfl, ?_⟩; replace HB := bs hb; (try clear hb)) | ((with_reducible refine gate_callee (f := 26) rfl ?_); refine gl (some 341) Tryd.func26 #[.string t450, .int .i64 t451] ?_; (with_reducible refine (spec_TurnAround.calls kj26 t450 t451 t458 t459 _ A78.out).mono ?_); rintro e w' ⟨rfl, ⟨nd, rfl⟩⟩; refine ⟨_, rfl, ?_⟩) | ((with_reducible refine gate_callee (f := 27) rfl ?_); refine gl (some 346) Tryd.func27 #[.slice A1 l1.length c1] ?_; (with_reducible refine (spec_DrawPlayRuns.calls kj26 _ _ l1 t460 t461 _ ?side1 ?side2 A79.out).mono ?_); (case side1 => exact cb HR1); (case side2 => exact HC1.out); rintro e w101 ⟨v462, rfl, ho0, hb⟩; refine ⟨_, rfl, ?_⟩; have HO463 := Aside0.mk (Kd.N_lower (Kd.N_mono (ok' := fun k_ => True) ho0 (fun k_ hk_ => trivial)) (below_size bw)); replace HB := bs hb; (try clear hb); (try clear ho0); obtain ⟨Ao102, co102, eo102⟩ := Kd.N_slice HO463.out; subst eo102) | ((with_reducible refine gate_callee (f := 16) rfl ?_); refine gl (some 352) Tryd.func16 #[.string t460, .slice Ao102 t461.length co102] ?_; (with_reducible refine (impl_PlayRuns.calls kj26 t460 _ _ t461 t464 t465 _ ?side1 ?side2 ?side3 A80.out).mono ?_); (case side1 => exact Dr.mm HMM); (case side2 => repeat (first | exact (Kd.N_reads' HO463.out).2.2 | (with_reducible refine Kd.C_alloc ?_ _) | (with_reducible refine Kd.C_drewN ?_ _) | (with_reducible refine Kd.C_drew ?_))); (case side3 => exact (Kd.N_reads' HO463.out).2.1); rintro e w103 ⟨rfl, hb⟩; refine ⟨_, rfl, ?_⟩; replace HO463 := Aside0.mk (Kd.N_below (by (with_reducible repeat (first | apply Kd.N_alloc | apply Kd.N_drewN | apply Kd.N_drew)); exact HO463.out) hb); replace HB := bs hb; (try clear hb)) | ((with_reducible refine gate_callee (f := 28) rfl ?_); refine gl (some 358) Tryd.func28 #[.string t460, .slice Ao102 t461.length co102] ?_; (with_reducible refine (spec_PlayRuns.calls kj26 t460 _ _ t461 t466 t467 _ ?side1 ?side2 A81.out).mono ?_); (case side1 => repeat (first | exact (Kd.N_reads' HO463.out).2.2 | (with_reducible refine Kd.C_alloc ?_ _) | (with_reducible refine Kd.C_drewN ?_ _) | (with_reducible refine Kd.C_drew ?_))); (case side2 => exact (Kd.N_reads' HO463.out).2.1); rintro e w' ⟨rfl, ⟨nd, rfl⟩⟩; refine ⟨_, rfl, ?_⟩) | ((with_reducible refine gate_callee (f := 29) rfl ?_); refine gl (some 362) Tryd.func29 #[.slice A1 l1.length c1] ?_; (with_reducible refine (spec_DrawMostRuns.calls _ _ l1 t468 _ ?side1 ?side2 A82.out).mono ?_); (case side1 => exact cb HR1); (case side2 => exact HC1.out); rintro e w104 ⟨rfl, hb⟩; refine ⟨_, rfl, ?_⟩; replace HO463 := Aside0.mk (Kd.N_below (by (with_reducible repeat (first | apply Kd.N_alloc | apply Kd.N_drewN | apply Kd.N_drew)); exact HO463.out) hb); replace HB := bs hb; (try clear hb)) | ((with_reducible refine gate_callee (f := 17) rfl ?_); refine gl (some 365) Tryd.func17 #[.int .i64 t468] ?_; (with_reducible refine (impl_MostRuns.calls t468 t469 t470 _ A83.out).mono ?_); rintro e w' ⟨rfl, ⟨nd, rfl⟩⟩; refine ⟨_, rfl, ?_⟩) | ((with_reducible refine gate_callee (f := 30) rfl ?_); refine gl (some 370) Tryd.func30 #[.int .i64 t468] ?_; (with_reducible refine (spec_MostRuns.calls t468 t471 t472 _ A84.out).mono ?_); rintro e w' ⟨rfl, ⟨nd, rfl⟩⟩; refine ⟨_, rfl, ?_⟩))
                         (try simp only [Act.put, List.setIfInBounds_toArray, List.set_cons_zero, List.set_cons_succ])
                         go_cut [367, 372, 373, 374, 375, 376, 379, 380, 381, 382, 383, 384, 385, 386, 389, 390, 391, 392, 393, 394, 395, 396, 399, 400, 401, 402, 403, 404, 405, 406, 408, 409, 410, 411, 412, 413, 414, 415, 416, 417, 418, 419, 420, 421] from 9999 (fun _ _ _ _ _ _ _ _ _ _ _ _ _ _ _ _ _ _ _ _ _ _ _ _ _ _ _ _ _ _ _ _ _ _ _ _ _ _ _ _ _ _ _ _ wc => ∃ (kq : Nat), Aside0 (laws_FnOrdersTurn.j3 kq t450 t451 t452 t453 t456 t457 t460 t461 t464 t465 = some r) ∧ Aside0 (kq ≤ kj26) ∧ Aside0 (Kd.N (Kd.slice 3 (Kd.int .i64)) 31 wc w.heap.size (fun _ => True) (.slice Ao102 t461.length co102) t461) ∧ Aside0 (Below w.heap.size w wc))
                         case first => as_aux_lemma =>
                          have H := HC95.out
                          clear HC95
                          by_cases c105 : t447 = true
                          ·subst c105
                           rw [if_pos rfl] at H
                           have H' := Aside0.mk H
                           clear H
                           go_wp2_with (first | ((with_reducible refine gate_dst (N := 423) rfl ?_); (try (refine gate_guard (by rfl) ?_; dsimp only)); refine iter_event ?hg (N := 423) ?hd (s := t443) ?hx Tryd.underlying9 ?_; (case hd => rfl); (case hg => rfl); (case hx => exact ⟨_, rfl, by first | rfl | (go_simp; done) | (go_simp; rfl)⟩); intro gb473 hg w106 hbox hb; replace HO463 := Aside0.mk (Kd.N_below (Kd.N_elderB (by (with_reducible repeat (first | apply Kd.N_alloc | apply Kd.N_drewN | apply Kd.N_drew)); exact HO463.out) gb473 (Nat.le_of_eq hg.symm)) hb); have IT473 := Aside0.mk (hbox); have GW473 := gs hg; have GE473 := gs hg; replace HB := bs hb; clear hb hbox hg))
                           (try simp only [Act.put, List.setIfInBounds_toArray, List.set_cons_zero, List.set_cons_succ])
                           go_loopg [] kj26 (fun kq w' => ∃ (x474000_2 : Int), Aside0 (laws_FnOrdersTurn.l1 kq t443 t444 t445 t446 t450 t451 t452 t453 t456 t457 t460 t461 t464 t465 x474000_2 t443 = some r) ∧ Aside0 (kq ≤ kj26) ∧ Aside0 (Kd.N (Kd.slice 3 (Kd.int .i64)) 31 w' w.heap.size (fun k_ => k_ ≠ gb473) (.slice Ao102 t461.length co102) t461) ∧ Aside0 (w'.heap[gb473]? = some (.stringIter t443 (x474000_2 : Int).toNat)) ∧ Aside0 (Below w.heap.size w w'))
                           case atStart => exact ⟨(0), H', ⟨Nat.le_refl _⟩, ⟨by (with_reducible repeat (first | apply Kd.N_alloc | apply Kd.N_drewN | apply Kd.N_drew)); exact Kd.N_mono HO463.out (fun _ hk => hk.2)⟩, ⟨by (with_reducible repeat (first | refine blk_drewN ?_ _ | refine blk_drew ?_ | refine blk_alloc ?_ _)); exact IT473.out⟩, ⟨bw⟩⟩
                           case round =>
                            clear H'
                            repeat (first|clear c1|clear c2|clear p2|clear c3|clear c4|clear p4|clear q4|clear hx4|clear c5|clear c6|clear p6|clear c7|clear c8|clear c9|clear c10|clear c11|clear c12|clear c13|clear c14|clear c14b0|clear c14b1|clear c14b2|clear c16|clear c17|clear c17b0|clear c17b1|clear c17b2|clear c18|clear c18b0|clear c18b1|clear c19|clear c19b0|clear c19b1|clear c19b2|clear c20|clear c21|clear c22|clear c22b0|clear c22b1|clear c22b2|clear c23|clear c23b0|clear c23b1|clear c24|clear c24b0|clear c24b1|clear c24b2|clear c25|clear c25b0|clear c25b1|clear c25b2|clear c26|clear c26b0|clear c26b1|clear c26b2|clear c27|clear c28|clear c29|clear c30|clear c41|clear p43|clear q43|clear hx43|clear c44|clear c45|clear c45b0|clear c45b1|clear c46|clear c46b0|clear c46b1|clear c47|clear c48|clear c48b0|clear c49|clear c49b0|clear c49b1|clear c51|clear c52|clear c52b0|clear c53|clear c53b0|clear c55|clear c55b0|clear c56|clear c56b0|clear c57|clear c57b0|clear c59|clear c61|clear c61b0|clear c61b1|clear c62|clear c62b0|clear c62b1|clear p64|clear c65|clear c66|clear c67|clear c67b0|clear c68|clear c68b0|clear c85|clear c85b0|clear c85b1|clear c85b2|clear c86|clear c86b0|clear c86b1|clear c87|clear c87b0|clear c87b1|clear c87b2|clear c88|clear c88b0|clear c88b1|clear c89|clear c89b0|clear c89b1|clear c89b2|clear c90|clear c90b0|clear c90b1|clear c91|clear c91b0|clear c91b1|clear c91b2|clear c92|clear c92b0|clear c92b1|clear c93|clear c93b0|clear c93b1|clear c93b2|clear c94|clear c94b0|clear c94b1|clear c105|clear hx436_0|clear p436|clear q436)
                            obtain ⟨x474000_2, HA, HK2, HO_54, IT473, HB⟩ := hrel
                            cases gk with
                            | zero => exact absurd HA.out (by simp [laws_FnOrdersTurn.l1])
                            | succ k2 =>
                             have H := HA.out
                             clear HA
                             simp only [laws_FnOrdersTurn.l1] at H
                             by_cases c107 : x474000_2 < (t443.size : Int)
                             ·rw [if_pos c107] at H
                              have c107b0 : decide (x474000_2 < (t443.size : Int)) = true := decide_eq_true c107
                              clear c107
                              (first | rw [c107b0] | rw [@decide_eq_true _ _ (of_decide_eq_true c107b1)] | rw [@decide_eq_false _ _ (of_decide_eq_false c107b1)] | (simp only [i64_w, i32_w]; rw [c107b0]) | skip)
                              by_cases c108 : 0 ≤ x474000_2
                              ·rw [if_pos c108] at H
                               have c108b0 := eq_true c108
                               have c108b1 : decide (0 ≤ x474000_2) = true := decide_eq_true c108
                               clear c108
                               by_cases c109 : bt t443 x474000_2 < 128
                               ·rw [if_pos c109] at H
                                have c109b0 := eq_true c109
                                have c109b1 : decide (bt t443 x474000_2 < 128) = true := decide_eq_true c109
                                clear c109
                                by_cases c110 : x474000_2 < (t446.size : Int)
                                ·rw [if_pos c110] at H
                                 have c110b0 : decide (x474000_2 < (t446.size : Int)) = true := decide_eq_true c110
                                 clear c110
                                 by_cases c112 : x474000_2 < (t443.size : Int)
                                 ·rw [if_pos c112] at H
                                  have c112b0 : decide (x474000_2 < (t443.size : Int)) = true := decide_eq_true c112
                                  clear c112
                                  by_cases c114 : x474000_2 ≥ t444
                                  ·rw [if_pos c114] at H
                                   have c114b0 : decide (t444 ≤ x474000_2) = true := decide_eq_true c114
                                   clear c114
                                   by_cases c115 : (((bt t446 x474000_2) != (bt t443 x474000_2)) != (decide (x474000_2 ≤ t445))) = true
                                   ·rw [if_pos c115] at H
                                    exact absurd (Option.some.inj H) (by rw [HRT.out]; decide)
                                   ·rw [if_neg c115] at H
                                    have c115b0 : (((bt t446 x474000_2) != (bt t443 x474000_2)) != (decide (x474000_2 ≤ t445))) = false := by simpa using c115
                                    (try (have c115b1 : decide (((bt t446 x474000_2) != (bt t443 x474000_2)) = (decide (x474000_2 ≤ t445))) = true := by simpa using c115))
                                    (try (have c115b2 : (((bt t446 x474000_2) != (bt t443 x474000_2)) == (decide (x474000_2 ≤ t445))) = true := by simpa using c115))
                                    clear c115
                                    have H' := Aside0.mk H
                                    clear H
                                    try go_wp2_with (first | ((with_reducible refine gate_dst (N := 424) rfl ?_); (try (refine gate_guard (by rfl) ?_; dsimp only)); refine next_event ?hg (N := 424) ?hd (g := gb473) (s := t443) (p := x474000_2) ?hx ?hb ?h0 ?h1 ?h2 ?_; (case hd => rfl); (case hg => rfl); (case hx => exact ⟨_, rfl, by first | rfl | (go_simp; done) | (go_simp; rfl)⟩); (case hb => exact (by (with_reducible repeat (first | refine blk_drewN ?_ _ | refine blk_drew ?_ | refine blk_alloc ?_ _)); exact IT473.out)); (case h0 => first | (with_reducible decide) | exact of_decide_eq_true asm); (case h1 => exact of_decide_eq_true asm); (case h2 => exact of_decide_eq_true asm); intro w116 hbox hk; replace HO_54 := Aside0.mk (Kd.N_turned (ok := fun k_ => k_ ≠ gb473) (by (with_reducible repeat (first | apply Kd.N_alloc | apply Kd.N_drewN | apply Kd.N_drew)); exact HO_54.out) (fun k_ hk_ => hk_) hk); replace IT473 := Aside0.mk (hbox); replace HB := Aside0.mk (below_turned bw GE473.out hk); clear hbox hk))
                                    replace HO_54 := Aside0.mk (Kd.N_drew HO_54.out)
                                    replace IT473 := Aside0.mk (blk_drew IT473.out)
                                    replace HB := Aside0.mk (below_drew1 HB.out)
                                    have p111 : 0 ≤ (x474000_2 : Int) := of_decide_eq_true asm
                                    have q111 : x474000_2 < (t446.size : Int) := of_decide_eq_true asm
                                    have hx111 := bt_at t446 x474000_2
                                    replace p111 := eq_true p111
                                    replace q111 := eq_true q111
                                    have p113 : 0 ≤ (x474000_2 : Int) := of_decide_eq_true asm
                                    have q113 : x474000_2 < (t443.size : Int) := of_decide_eq_true asm
                                    have hx113 := bt_at t443 x474000_2
                                    replace p113 := eq_true p113
                                    replace q113 := eq_true q113
                                    refine start_ (n := 16) (S := fun w' => True) (ds := []) (tb 16 0) (by kernel_rfl) rfl rfl trivial (fun hHeld => ?_); refine with_tabW laws_FnOrdersTurn.tab55 laws_FnOrdersTurn.bits55 (fun HT_ HW_ => ?_)
                                    generalize w116.drew = w117 at HO_54 IT473 HB hHeld ⊢
                                    refine pu 0 (some 427) (tb 16 1) ?_
                                    refine pu 1 (some 428) (tb 16 3) ?_
                                    refine pu 3 (some 430) (tb 16 11) ?_
                                    refine pu 4 (some 431) (tb 16 27) ?_
                                    refine pu 7 (some 434) (tb 16 155) ?_
                                    refine pu 8 (some 435) (tb 16 411) ?_
                                    refine pu 9 (some 436) (tb 16 923) ?_
                                    refine pu 10 (some 437) (tb 16 1947) ?_
                                    refine pu 11 (some 438) (tb 16 3995) ?_
                                    refine pu 12 (some 439) (tb 16 8091) ?_
                                    refine pu 13 (some 440) (tb 16 16283) ?_
                                    refine pu 14 (some 441) (tb 16 32667) ?_
                                    refine take_ (i := 2) (N := some 429) (v := ?_) (a' := ?_) (tb 16 32671) rfl rfl (take_ofW HT_.out HW_.out (by kernel_rfl)) (fun _ _ _ h => h) (Or.inl ⟨by rfl, ?_⟩) hHeld ?_ ?_
                                    rotate_left
                                    ·intro w' _
                                     go_simp
                                     with_reducible rfl
                                    rotate_left
                                    ·simp only [Act.put, List.setIfInBounds_toArray, List.set_cons_zero, List.set_cons_succ, i64_w, i32_w]
                                     rfl
                                    refine take_ (i := 5) (N := some 432) (v := ?_) (a' := ?_) (tb 16 32703) rfl rfl (take_ofW HT_.out HW_.out (by kernel_rfl)) (fun _ _ _ h => h) (Or.inl ⟨by rfl, ?_⟩) hHeld ?_ ?_
                                    rotate_left
                                    ·intro w' _
                                     go_simp
                                     with_reducible rfl
                                    rotate_left
                                    ·simp only [Act.put, List.setIfInBounds_toArray, List.set_cons_zero, List.set_cons_succ, i64_w, i32_w]
                                     rfl
                                    refine pu 6 (some 433) (tb 16 32767) ?_
                                    refine pu 15 (some 442) (tb 16 65535) ?_
                                    refine done_ (done_of HT_.out (by kernel_rfl)) ?_
                                    try go_wp2
                                    go_roundg k2
                                    case measure => have := HJ26.out; have := HK2.out; omega
                                    case rel => exact ⟨(x474000_2 + 1), H', ⟨by have := HJ26.out; have := HK2.out; omega⟩, ⟨by (with_reducible repeat (first | apply Kd.N_alloc | apply Kd.N_drewN | apply Kd.N_drew)); exact HO_54.out⟩, ⟨by (with_reducible repeat (first | refine blk_drewN ?_ _ | refine blk_drew ?_ | refine blk_alloc ?_ _)); exact IT473.out⟩, ⟨bw⟩⟩
                                  ·rw [if_neg c114] at H
                                   have c114b0 : decide (t444 ≤ x474000_2) = false := decide_eq_false c114
                                   clear c114
                                   by_cases c118 : (((bt t446 x474000_2) != (bt t443 x474000_2)) != false) = true
                                   ·rw [if_pos c118] at H
                                    exact absurd (Option.some.inj H) (by rw [HRT.out]; decide)
                                   ·rw [if_neg c118] at H
                                    have c118b0 : (((bt t446 x474000_2) != (bt t443 x474000_2)) != false) = false := by simpa using c118
                                    (try (have c118b1 : decide (((bt t446 x474000_2) != (bt t443 x474000_2)) = false) = true := by simpa using c118))
                                    (try (have c118b2 : (((bt t446 x474000_2) != (bt t443 x474000_2)) == false) = true := by simpa using c118))
                                    clear c118
                                    have H' := Aside0.mk H
                                    clear H
                                    try go_wp2_with (first | ((with_reducible refine gate_dst (N := 424) rfl ?_); (try (refine gate_guard (by rfl) ?_; dsimp only)); refine next_event ?hg (N := 424) ?hd (g := gb473) (s := t443) (p := x474000_2) ?hx ?hb ?h0 ?h1 ?h2 ?_; (case hd => rfl); (case hg => rfl); (case hx => exact ⟨_, rfl, by first | rfl | (go_simp; done) | (go_simp; rfl)⟩); (case hb => exact (by (with_reducible repeat (first | refine blk_drewN ?_ _ | refine blk_drew ?_ | refine blk_alloc ?_ _)); exact IT473.out)); (case h0 => first | (with_reducible decide) | exact of_decide_eq_true asm); (case h1 => exact of_decide_eq_true asm); (case h2 => exact of_decide_eq_true asm); intro w119 hbox hk; replace HO_54 := Aside0.mk (Kd.N_turned (ok := fun k_ => k_ ≠ gb473) (by (with_reducible repeat (first | apply Kd.N_alloc | apply Kd.N_drewN | apply Kd.N_drew)); exact HO_54.out) (fun k_ hk_ => hk_) hk); replace IT473 := Aside0.mk (hbox); replace HB := Aside0.mk (below_turned bw GE473.out hk); clear hbox hk))
                                    replace HO_54 := Aside0.mk (Kd.N_drew HO_54.out)
                                    replace IT473 := Aside0.mk (blk_drew IT473.out)
                                    replace HB := Aside0.mk (below_drew1 HB.out)
                                    have p111 : 0 ≤ (x474000_2 : Int) := of_decide_eq_true asm
                                    have q111 : x474000_2 < (t446.size : Int) := of_decide_eq_true asm
                                    have hx111 := bt_at t446 x474000_2
                                    replace p111 := eq_true p111
                                    replace q111 := eq_true q111
                                    have p113 : 0 ≤ (x474000_2 : Int) := of_decide_eq_true asm
                                    have q113 : x474000_2 < (t443.size : Int) := of_decide_eq_true asm
                                    have hx113 := bt_at t443 x474000_2
                                    replace p113 := eq_true p113
                                    replace q113 := eq_true q113
                                    refine start_ (n := 16) (S := fun w' => True) (ds := []) (tb 16 0) (by kernel_rfl) rfl rfl trivial (fun hHeld => ?_); refine with_tabW laws_FnOrdersTurn.tab55 laws_FnOrdersTurn.bits55 (fun HT_ HW_ => ?_)
                                    generalize w119.drew = w120 at HO_54 IT473 HB hHeld ⊢
                                    refine pu 0 (some 427) (tb 16 1) ?_
                                    refine pu 1 (some 428) (tb 16 3) ?_
                                    refine pu 3 (some 430) (tb 16 11) ?_
                                    refine pu 4 (some 431) (tb 16 27) ?_
                                    refine pu 7 (some 434) (tb 16 155) ?_
                                    refine pu 8 (some 435) (tb 16 411) ?_
                                    refine pu 9 (some 436) (tb 16 923) ?_
                                    refine pu 10 (some 437) (tb 16 1947) ?_
                                    refine pure_ (i := 11) (N := some 438) (v := undef) (a' := ?_) (tb 16 3995) rfl rfl (any_of HT_.out (by kernel_rfl)) (fun _ _ _ h => h) (Or.inr ⟨by rfl, rfl⟩) ?_ ?_
                                    rotate_left
                                    ·simp only [Act.put, List.setIfInBounds_toArray, List.set_cons_zero, List.set_cons_succ, i64_w, i32_w]
                                     rfl
                                    refine pure_ (i := 12) (N := some 439) (v := undef) (a' := ?_) (tb 16 8091) rfl rfl (any_of HT_.out (by kernel_rfl)) (fun _ _ _ h => h) (Or.inr ⟨by rfl, rfl⟩) ?_ ?_
                                    rotate_left
                                    ·simp only [Act.put, List.setIfInBounds_toArray, List.set_cons_zero, List.set_cons_succ, i64_w, i32_w]
                                     rfl
                                    refine pure_ (i := 13) (N := some 440) (v := undef) (a' := ?_) (tb 16 16283) rfl rfl (any_of HT_.out (by kernel_rfl)) (fun _ _ _ h => h) (Or.inr ⟨by rfl, rfl⟩) ?_ ?_
                                    rotate_left
                                    ·simp only [Act.put, List.setIfInBounds_toArray, List.set_cons_zero, List.set_cons_succ, i64_w, i32_w]
                                     rfl
                                    refine pu 14 (some 441) (tb 16 32667) ?_
                                    refine take_ (i := 2) (N := some 429) (v := ?_) (a' := ?_) (tb 16 32671) rfl rfl (take_ofW HT_.out HW_.out (by kernel_rfl)) (fun _ _ _ h => h) (Or.inl ⟨by rfl, ?_⟩) hHeld ?_ ?_
                                    rotate_left
                                    ·intro w' _
                                     go_simp
                                     with_reducible rfl
                                    rotate_left
                                    ·simp only [Act.put, List.setIfInBounds_toArray, List.set_cons_zero, List.set_cons_succ, i64_w, i32_w]
                                     rfl
                                    refine take_ (i := 5) (N := some 432) (v := ?_) (a' := ?_) (tb 16 32703) rfl rfl (take_ofW HT_.out HW_.out (by kernel_rfl)) (fun _ _ _ h => h) (Or.inl ⟨by rfl, ?_⟩) hHeld ?_ ?_
                                    rotate_left
                                    ·intro w' _
                                     go_simp
                                     with_reducible rfl
                                    rotate_left
                                    ·simp only [Act.put, List.setIfInBounds_toArray, List.set_cons_zero, List.set_cons_succ, i64_w, i32_w]
                                     rfl
                                    refine pu 6 (some 433) (tb 16 32767) ?_
                                    refine pu 15 (some 442) (tb 16 65535) ?_
                                    refine done_ (done_of HT_.out (by kernel_rfl)) ?_
                                    try go_wp2
                                    go_roundg k2
                                    case measure => have := HJ26.out; have := HK2.out; omega
                                    case rel => exact ⟨(x474000_2 + 1), H', ⟨by have := HJ26.out; have := HK2.out; omega⟩, ⟨by (with_reducible repeat (first | apply Kd.N_alloc | apply Kd.N_drewN | apply Kd.N_drew)); exact HO_54.out⟩, ⟨by (with_reducible repeat (first | refine blk_drewN ?_ _ | refine blk_drew ?_ | refine blk_alloc ?_ _)); exact IT473.out⟩, ⟨bw⟩⟩
                                 ·rw [if_neg c112] at H
                                  exact absurd H (by simp)
                                ·rw [if_neg c110] at H
                                 exact absurd H (by simp)
                               ·rw [if_neg c109] at H
                                exact absurd H (by simp)
                              ·rw [if_neg c108] at H
                               exact absurd H (by simp)
                             ·rw [if_neg c107] at H
                              have c107b0 : decide (x474000_2 < (t443.size : Int)) = false := decide_eq_false c107
                              clear c107
                              (first | rw [c107b0] | rw [@decide_eq_true _ _ (of_decide_eq_true c107b1)] | rw [@decide_eq_false _ _ (of_decide_eq_false c107b1)] | (simp only [i64_w, i32_w]; rw [c107b0]) | skip)
                              have H' := Aside0.mk H
                              clear H
                              go_wp2_with (first | ((with_reducible refine gate_dst (N := 424) rfl ?_); (try (refine gate_guard (by rfl) ?_; dsimp only)); refine next_end_event ?hg (N := 424) ?hd (g := gb473) (s := t443) (p := x474000_2) ?hx ?hb ?h1 ?_; (case hd => rfl); (case hg => rfl); (case hx => exact ⟨_, rfl, by first | rfl | (go_simp; done) | (go_simp; rfl)⟩); (case hb => exact (by (with_reducible repeat (first | refine blk_drewN ?_ _ | refine blk_drew ?_ | refine blk_alloc ?_ _)); exact IT473.out)); (case h1 => exact of_decide_eq_false asm)))
                              go_meet
                              case rel => exact ⟨_, H', ⟨by have := HJ26.out; have := HK2.out; first | omega | exact Nat.le_refl _⟩, ⟨by (with_reducible repeat (first | apply Kd.N_alloc | apply Kd.N_drewN | apply Kd.N_drew)); exact Kd.N_mono HO_54.out (fun _ hk => trivial)⟩, ⟨bw⟩⟩
                          ·replace c105 := Bool.eq_false_iff.mpr c105
                           subst c105
                           rw [if_neg (show ¬ (false = true) by decide)] at H
                           have H' := Aside0.mk H
                           clear H
                           go_wp2
                           go_meet
                           case rel => exact ⟨_, H', ⟨by have := HJ26.out; first | omega | exact Nat.le_refl _⟩, ⟨by (with_reducible repeat (first | apply Kd.N_alloc | apply Kd.N_drewN | apply Kd.N_drew)); exact HO463.out⟩, ⟨bw⟩⟩
                         case rest =>
                          clear HC95
                          repeat (first|clear c1|clear p1|clear q1|clear hx1|clear c2|clear p2|clear c3|clear c4|clear p4|clear q4|clear hx4|clear c5|clear c6|clear p6|clear c7|clear c8|clear c9|clear c10|clear c11|clear p11|clear q11|clear hx11|clear c12|clear c13|clear c14|clear c14b0|clear c14b1|clear c14b2|clear c16|clear c17|clear c17b0|clear c17b1|clear c17b2|clear c18|clear c18b0|clear c18b1|clear c19|clear c19b0|clear c19b1|clear c19b2|clear c20|clear c21|clear c22|clear c22b0|clear c22b1|clear c22b2|clear c23|clear c23b0|clear c23b1|clear c24|clear c24b0|clear c24b1|clear c24b2|clear c25|clear c25b0|clear c25b1|clear c25b2|clear c26|clear c26b0|clear c26b1|clear c26b2|clear c27|clear c28|clear c29|clear c30|clear c41|clear p43|clear q43|clear hx43|clear c44|clear c45|clear c45b0|clear c45b1|clear c46|clear c46b0|clear c46b1|clear c47|clear c48|clear c48b0|clear c49|clear c49b0|clear c49b1|clear c51|clear c52|clear c52b0|clear c53|clear c53b0|clear c55|clear c55b0|clear c56|clear c56b0|clear c57|clear c57b0|clear c59|clear c61|clear c61b0|clear c61b1|clear c62|clear c62b0|clear c62b1|clear p64|clear c65|clear c66|clear c67|clear c67b0|clear c68|clear c68b0|clear c85|clear c85b0|clear c85b1|clear c85b2|clear c86|clear c86b0|clear c86b1|clear c87|clear c87b0|clear c87b1|clear c87b2|clear c88|clear c88b0|clear c88b1|clear c89|clear c89b0|clear c89b1|clear c89b2|clear c90|clear c90b0|clear c90b1|clear c91|clear c91b0|clear c91b1|clear c91b2|clear c92|clear c92b0|clear c92b1|clear c93|clear c93b0|clear c93b1|clear c93b2|clear c94|clear c94b0|clear c94b1|clear c105|clear c107|clear c107b0|clear c108|clear c108b0|clear c108b1|clear c109|clear c109b0|clear c109b1|clear c110|clear c110b0|clear p111|clear q111|clear hx111|clear c112|clear c112b0|clear p113|clear q113|clear hx113|clear c114|clear c114b0|clear c115|clear c115b0|clear c115b1|clear c115b2|clear c118|clear c118b0|clear c118b1|clear c118b2|clear hx436_0|clear p436|clear q436)
                          obtain ⟨kq, HA, HJ94, HO_54, HB⟩ := hcut
                          cases kq with
                          | zero => exact absurd HA.out (by simp [laws_FnOrdersTurn.j3])
                          | succ kj94 =>
                           have H := HA.out
                           clear HA
                           simp only [laws_FnOrdersTurn.j3] at H
                           have HC121 := Aside0.mk H
                           clear H
                           go_upto_if 443 with (fail)
                           go_cut [384, 385, 386, 389, 390, 391, 392, 393, 394, 395, 396, 399, 400, 401, 402, 403, 404, 405, 406, 409, 410, 411, 412, 413, 414, 415, 416, 419, 420, 421, 425, 430, 431, 432, 433, 434, 435, 436, 437, 438, 439, 440, 441, 442, 443] from 9999 (fun _ _ _ _ _ _ _ _ _ _ _ _ _ _ _ _ _ _ _ _ _ _ _ _ _ _ _ _ _ _ _ _ _ _ _ _ _ _ _ _ _ _ _ _ _ wc => ∃ (kq : Nat), Aside0 (laws_FnOrdersTurn.j5 kq t450 t451 t456 t457 t460 t461 t464 t465 = some r) ∧ Aside0 (kq ≤ kj94) ∧ Aside0 (Kd.N (Kd.slice 3 (Kd.int .i64)) 31 wc w.heap.size (fun _ => True) (.slice Ao102 t461.length co102) t461) ∧ Aside0 (Below w.heap.size w wc))
                           case first => as_aux_lemma =>
                            have H := HC121.out
                            clear HC121
                            by_cases c122 : t453 = true
                            ·subst c122
                             rw [if_pos rfl] at H
                             have H' := Aside0.mk H
                             clear H
                             go_wp2_with (first | ((with_reducible refine gate_dst (N := 445) rfl ?_); (try (refine gate_guard (by rfl) ?_; dsimp only)); refine iter_event ?hg (N := 445) ?hd (s := t450) ?hx Tryd.underlying9 ?_; (case hd => rfl); (case hg => rfl); (case hx => exact ⟨_, rfl, by first | rfl | (go_simp; done) | (go_simp; rfl)⟩); intro gb474 hg w123 hbox hb; replace HO_54 := Aside0.mk (Kd.N_below (Kd.N_elderB (by (with_reducible repeat (first | apply Kd.N_alloc | apply Kd.N_drewN | apply Kd.N_drew)); exact HO_54.out) gb474 (Nat.le_of_eq hg.symm)) hb); have IT474 := Aside0.mk (hbox); have GW474 := gs hg; have GE474 := gs hg; replace HB := bs hb; clear hb hbox hg))
                             (try simp only [Act.put, List.setIfInBounds_toArray, List.set_cons_zero, List.set_cons_succ])
                             go_loopg [] kj94 (fun kq w' => ∃ (x475000_3 : Int), Aside0 (laws_FnOrdersTurn.l2 kq t450 t451 t452 t456 t457 t460 t461 t464 t465 x475000_3 t450 = some r) ∧ Aside0 (kq ≤ kj94) ∧ Aside0 (Kd.N (Kd.slice 3 (Kd.int .i64)) 31 w' w.heap.size (fun k_ => k_ ≠ gb474) (.slice Ao102 t461.length co102) t461) ∧ Aside0 (w'.heap[gb474]? = some (.stringIter t450 (x475000_3 : Int).toNat)) ∧ Aside0 (Below w.heap.size w w'))
                             case atStart => exact ⟨(0), H', ⟨Nat.le_refl _⟩, ⟨by (with_reducible repeat (first | apply Kd.N_alloc | apply Kd.N_drewN | apply Kd.N_drew)); exact Kd.N_mono HO_54.out (fun _ hk => hk.2)⟩, ⟨by (with_reducible repeat (first | refine blk_drewN ?_ _ | refine blk_drew ?_ | refine blk_alloc ?_ _)); exact IT474.out⟩, ⟨bw⟩⟩
                             case round =>
                              clear H'
                              repeat (first|clear c1|clear p1|clear q1|clear hx1|clear c2|clear p2|clear c3|clear c4|clear p4|clear q4|clear hx4|clear c5|clear c6|clear p6|clear c7|clear c8|clear c9|clear c10|clear c11|clear p11|clear q11|clear hx11|clear c12|clear c13|clear c14|clear c14b0|clear c14b1|clear c14b2|clear c16|clear c17|clear c17b0|clear c17b1|clear c17b2|clear c18|clear c18b0|clear c18b1|clear c19|clear c19b0|clear c19b1|clear c19b2|clear c20|clear c21|clear c22|clear c22b0|clear c22b1|clear c22b2|clear c23|clear c23b0|clear c23b1|clear c24|clear c24b0|clear c24b1|clear c24b2|clear c25|clear c25b0|clear c25b1|clear c25b2|clear c26|clear c26b0|clear c26b1|clear c26b2|clear c27|clear c28|clear c29|clear c30|clear c41|clear p43|clear q43|clear hx43|clear c44|clear c45|clear c45b0|clear c45b1|clear c46|clear c46b0|clear c46b1|clear c47|clear c48|clear c48b0|clear c49|clear c49b0|clear c49b1|clear c51|clear c52|clear c52b0|clear c53|clear c53b0|clear c55|clear c55b0|clear c56|clear c56b0|clear c57|clear c57b0|clear c59|clear c61|clear c61b0|clear c61b1|clear c62|clear c62b0|clear c62b1|clear p64|clear c65|clear c66|clear c67|clear c67b0|clear c68|clear c68b0|clear c85|clear c85b0|clear c85b1|clear c85b2|clear c86|clear c86b0|clear c86b1|clear c87|clear c87b0|clear c87b1|clear c87b2|clear c88|clear c88b0|clear c88b1|clear c89|clear c89b0|clear c89b1|clear c89b2|clear c90|clear c90b0|clear c90b1|clear c91|clear c91b0|clear c91b1|clear c91b2|clear c92|clear c92b0|clear c92b1|clear c93|clear c93b0|clear c93b1|clear c93b2|clear c94|clear c94b0|clear c94b1|clear c105|clear c107|clear c107b0|clear c108|clear c108b0|clear c108b1|clear c109|clear c109b0|clear c109b1|clear c110|clear c110b0|clear p111|clear q111|clear hx111|clear c112|clear c112b0|clear p113|clear q113|clear hx113|clear c114|clear c114b0|clear c115|clear c115b0|clear c115b1|clear c115b2|clear c118|clear c118b0|clear c118b1|clear c118b2|clear c122|clear hx436_0|clear p436|clear q436)
                              obtain ⟨x475000_3, HA, HK3, HO_54, IT474, HB⟩ := hrel
                              cases gk with
                              | zero => exact absurd HA.out (by simp [laws_FnOrdersTurn.l2])
                              | succ k3 =>
                               have H := HA.out
                               clear HA
                               simp only [laws_FnOrdersTurn.l2] at H
                               by_cases c124 : x475000_3 < (t450.size : Int)
                               ·rw [if_pos c124] at H
                                have c124b0 : decide (x475000_3 < (t450.size : Int)) = true := decide_eq_true c124
                                clear c124
                                (first | rw [c124b0] | rw [@decide_eq_true _ _ (of_decide_eq_true c124b1)] | rw [@decide_eq_false _ _ (of_decide_eq_false c124b1)] | (simp only [i64_w, i32_w]; rw [c124b0]) | skip)
                                by_cases c125 : 0 ≤ x475000_3
                                ·rw [if_pos c125] at H
                                 have c125b0 := eq_true c125
                                 have c125b1 : decide (0 ≤ x475000_3) = true := decide_eq_true c125
                                 clear c125
                                 by_cases c126 : bt t450 x475000_3 < 128
                                 ·rw [if_pos c126] at H
                                  have c126b0 := eq_true c126
                                  have c126b1 : decide (bt t450 x475000_3 < 128) = true := decide_eq_true c126
                                  clear c126
                                  by_cases c127 : x475000_3 < (t452.size : Int)
                                  ·rw [if_pos c127] at H
                                   have c127b0 : decide (x475000_3 < (t452.size : Int)) = true := decide_eq_true c127
                                   clear c127
                                   by_cases c129 : x475000_3 < (t450.size : Int)
                                   ·rw [if_pos c129] at H
                                    have c129b0 : decide (x475000_3 < (t450.size : Int)) = true := decide_eq_true c129
                                    clear c129
                                    by_cases c131 : (((bt t452 x475000_3) != (bt t450 x475000_3)) != (decide (x475000_3 < t451))) = true
                                    ·rw [if_pos c131] at H
                                     exact absurd (Option.some.inj H) (by rw [HRT.out]; decide)
                                    ·rw [if_neg c131] at H
                                     have c131b0 : (((bt t452 x475000_3) != (bt t450 x475000_3)) != (decide (x475000_3 < t451))) = false := by simpa using c131
                                     (try (have c131b1 : decide (((bt t452 x475000_3) != (bt t450 x475000_3)) = (decide (x475000_3 < t451))) = true := by simpa using c131))
                                     (try (have c131b2 : (((bt t452 x475000_3) != (bt t450 x475000_3)) == (decide (x475000_3 < t451))) = true := by simpa using c131))
                                     clear c131
                                     have H' := Aside0.mk H
                                     clear H
                                     try go_wp2_with (first | ((with_reducible refine gate_dst (N := 446) rfl ?_); (try (refine gate_guard (by rfl) ?_; dsimp only)); refine next_event ?hg (N := 446) ?hd (g := gb474) (s := t450) (p := x475000_3) ?hx ?hb ?h0 ?h1 ?h2 ?_; (case hd => rfl); (case hg => rfl); (case hx => exact ⟨_, rfl, by first | rfl | (go_simp; done) | (go_simp; rfl)⟩); (case hb => exact (by (with_reducible repeat (first | refine blk_drewN ?_ _ | refine blk_drew ?_ | refine blk_alloc ?_ _)); exact IT474.out)); (case h0 => first | (with_reducible decide) | exact of_decide_eq_true asm); (case h1 => exact of_decide_eq_true asm); (case h2 => exact of_decide_eq_true asm); intro w132 hbox hk; replace HO_54 := Aside0.mk (Kd.N_turned (ok := fun k_ => k_ ≠ gb474) (by (with_reducible repeat (first | apply Kd.N_alloc | apply Kd.N_drewN | apply Kd.N_drew)); exact HO_54.out) (fun k_ hk_ => hk_) hk); replace IT474 := Aside0.mk (hbox); replace HB := Aside0.mk (below_turned bw GE474.out hk); clear hbox hk))
                                     replace HO_54 := Aside0.mk (Kd.N_drew HO_54.out)
                                     replace IT474 := Aside0.mk (blk_drew IT474.out)
                                     replace HB := Aside0.mk (below_drew1 HB.out)
                                     have p128 : 0 ≤ (x475000_3 : Int) := of_decide_eq_true asm
                                     have q128 : x475000_3 < (t452.size : Int) := of_decide_eq_true asm
                                     have hx128 := bt_at t452 x475000_3
                                     replace p128 := eq_true p128
                                     replace q128 := eq_true q128
                                     have p130 : 0 ≤ (x475000_3 : Int) := of_decide_eq_true asm
                                     have q130 : x475000_3 < (t450.size : Int) := of_decide_eq_true asm
                                     have hx130 := bt_at t450 x475000_3
                                     replace p130 := eq_true p130
                                     replace q130 := eq_true q130
                                     refine start_ (n := 11) (S := fun w' => True) (ds := []) (tb 11 0) (by kernel_rfl) rfl rfl trivial (fun hHeld => ?_); refine with_tabW laws_FnOrdersTurn.tab61 laws_FnOrdersTurn.bits61 (fun HT_ HW_ => ?_)
                                     generalize w132.drew = w133 at HO_54 IT474 HB hHeld ⊢
                                     refine pu 0 (some 449) (tb 11 1) ?_
                                     refine pu 1 (some 450) (tb 11 3) ?_
                                     refine pu 3 (some 452) (tb 11 11) ?_
                                     refine pu 4 (some 453) (tb 11 27) ?_
                                     refine pu 7 (some 456) (tb 11 155) ?_
                                     refine pu 8 (some 457) (tb 11 411) ?_
                                     refine pu 9 (some 458) (tb 11 923) ?_
                                     refine take_ (i := 2) (N := some 451) (v := ?_) (a' := ?_) (tb 11 927) rfl rfl (take_ofW HT_.out HW_.out (by kernel_rfl)) (fun _ _ _ h => h) (Or.inl ⟨by rfl, ?_⟩) hHeld ?_ ?_
                                     rotate_left
                                     ·intro w' _
                                      go_simp
                                      with_reducible rfl
                                     rotate_left
                                     ·simp only [Act.put, List.setIfInBounds_toArray, List.set_cons_zero, List.set_cons_succ, i64_w, i32_w]
                                      rfl
                                     refine take_ (i := 5) (N := some 454) (v := ?_) (a' := ?_) (tb 11 959) rfl rfl (take_ofW HT_.out HW_.out (by kernel_rfl)) (fun _ _ _ h => h) (Or.inl ⟨by rfl, ?_⟩) hHeld ?_ ?_
                                     rotate_left
                                     ·intro w' _
                                      go_simp
                                      with_reducible rfl
                                     rotate_left
                                     ·simp only [Act.put, List.setIfInBounds_toArray, List.set_cons_zero, List.set_cons_succ, i64_w, i32_w]
                                      rfl
                                     refine pu 6 (some 455) (tb 11 1023) ?_
                                     refine pu 10 (some 459) (tb 11 2047) ?_
                                     refine done_ (done_of HT_.out (by kernel_rfl)) ?_
                                     try go_wp2
                                     go_roundg k3
                                     case measure => have := HJ26.out; have := HJ94.out; have := HK3.out; omega
                                     case rel => exact ⟨(x475000_3 + 1), H', ⟨by have := HJ26.out; have := HJ94.out; have := HK3.out; omega⟩, ⟨by (with_reducible repeat (first | apply Kd.N_alloc | apply Kd.N_drewN | apply Kd.N_drew)); exact HO_54.out⟩, ⟨by (with_reducible repeat (first | refine blk_drewN ?_ _ | refine blk_drew ?_ | refine blk_alloc ?_ _)); exact IT474.out⟩, ⟨bw⟩⟩
                                   ·rw [if_neg c129] at H
                                    exact absurd H (by simp)
                                  ·rw [if_neg c127] at H
                                   exact absurd H (by simp)
                                 ·rw [if_neg c126] at H
                                  exact absurd H (by simp)
                                ·rw [if_neg c125] at H
                                 exact absurd H (by simp)
                               ·rw [if_neg c124] at H
                                have c124b0 : decide (x475000_3 < (t450.size : Int)) = false := decide_eq_false c124
                                clear c124
                                (first | rw [c124b0] | rw [@decide_eq_true _ _ (of_decide_eq_true c124b1)] | rw [@decide_eq_false _ _ (of_decide_eq_false c124b1)] | (simp only [i64_w, i32_w]; rw [c124b0]) | skip)
                                have H' := Aside0.mk H
                                clear H
                                go_wp2_with (first | ((with_reducible refine gate_dst (N := 446) rfl ?_); (try (refine gate_guard (by rfl) ?_; dsimp only)); refine next_end_event ?hg (N := 446) ?hd (g := gb474) (s := t450) (p := x475000_3) ?hx ?hb ?h1 ?_; (case hd => rfl); (case hg => rfl); (case hx => exact ⟨_, rfl, by first | rfl | (go_simp; done) | (go_simp; rfl)⟩); (case hb => exact (by (with_reducible repeat (first | refine blk_drewN ?_ _ | refine blk_drew ?_ | refine blk_alloc ?_ _)); exact IT474.out)); (case h1 => exact of_decide_eq_false asm)))
                                go_meet
                                case rel => exact ⟨_, H', ⟨by have := HJ26.out; have := HJ94.out; have := HK3.out; first | omega | exact Nat.le_refl _⟩, ⟨by (with_reducible repeat (first | apply Kd.N_alloc | apply Kd.N_drewN | apply Kd.N_drew)); exact Kd.N_mono HO_54.out (fun _ hk => trivial)⟩, ⟨bw⟩⟩
                            ·replace c122 := Bool.eq_false_iff.mpr c122
                             subst c122
                             rw [if_neg (show ¬ (false = true) by decide)] at H
                             have H' := Aside0.mk H
                             clear H
                             go_wp2
                             go_meet
                             case rel => exact ⟨_, H', ⟨by have := HJ26.out; have := HJ94.out; first | omega | exact Nat.le_refl _⟩, ⟨by (with_reducible repeat (first | apply Kd.N_alloc | apply Kd.N_drewN | apply Kd.N_drew)); exact HO_54.out⟩, ⟨bw⟩⟩
                           case rest =>
                            clear HC121
                            repeat (first|clear c1|clear p1|clear q1|clear hx1|clear c2|clear p2|clear c3|clear c4|clear p4|clear q4|clear hx4|clear c5|clear c6|clear p6|clear c7|clear c8|clear c9|clear c10|clear c11|clear p11|clear q11|clear hx11|clear c12|clear p12|clear q12|clear hx12|clear c13|clear p13|clear q13|clear hx13|clear c14|clear c14b0|clear c14b1|clear c14b2|clear c16|clear c17|clear c17b0|clear c17b1|clear c17b2|clear c18|clear c18b0|clear c18b1|clear c19|clear c19b0|clear c19b1|clear c19b2|clear c20|clear c21|clear c22|clear c22b0|clear c22b1|clear c22b2|clear c23|clear c23b0|clear c23b1|clear c24|clear c24b0|clear c24b1|clear c24b2|clear c25|clear c25b0|clear c25b1|clear c25b2|clear c26|clear c26b0|clear c26b1|clear c26b2|clear c27|clear c28|clear c29|clear c30|clear c41|clear p43|clear q43|clear hx43|clear c44|clear c45|clear c45b0|clear c45b1|clear c46|clear c46b0|clear c46b1|clear c47|clear c48|clear c48b0|clear c49|clear c49b0|clear c49b1|clear c51|clear c52|clear c52b0|clear c53|clear c53b0|clear c55|clear c55b0|clear c56|clear c56b0|clear c57|clear c57b0|clear c59|clear c61|clear c61b0|clear c61b1|clear c62|clear c62b0|clear c62b1|clear p64|clear c65|clear c66|clear c67|clear c67b0|clear c68|clear c68b0|clear c85|clear c85b0|clear c85b1|clear c85b2|clear c86|clear c86b0|clear c86b1|clear c87|clear c87b0|clear c87b1|clear c87b2|clear c88|clear c88b0|clear c88b1|clear c89|clear c89b0|clear c89b1|clear c89b2|clear c90|clear c90b0|clear c90b1|clear c91|clear c91b0|clear c91b1|clear c91b2|clear c92|clear c92b0|clear c92b1|clear c93|clear c93b0|clear c93b1|clear c93b2|clear c94|clear c94b0|clear c94b1|clear c105|clear c107|clear c107b0|clear c108|clear c108b0|clear c108b1|clear c109|clear c109b0|clear c109b1|clear c110|clear c110b0|clear p111|clear q111|clear hx111|clear c112|clear c112b0|clear p113|clear q113|clear hx113|clear c114|clear c114b0|clear c115|clear c115b0|clear c115b1|clear c115b2|clear c118|clear c118b0|clear c118b1|clear c118b2|clear c122|clear c124|clear c124b0|clear c125|clear c125b0|clear c125b1|clear c126|clear c126b0|clear c126b1|clear c127|clear c127b0|clear p128|clear q128|clear hx128|clear c129|clear c129b0|clear p130|clear q130|clear hx130|clear c131|clear c131b0|clear c131b1|clear c131b2|clear hx436_0|clear p436|clear q436)
                            obtain ⟨kq, HA, HJ120, HO_54, HB⟩ := hcut
                            cases kq with
                            | zero => exact absurd HA.out (by simp [laws_FnOrdersTurn.j5])
                            | succ kj120 =>
                             have H := HA.out
                             clear HA
                             simp only [laws_FnOrdersTurn.j5] at H
                             have HC134 := Aside0.mk H
                             clear H
                             go_upto_if 460 with (fail)
                             go_cut [401, 402, 403, 404, 405, 406, 409, 410, 411, 412, 413, 414, 415, 416, 419, 420, 421, 425, 433, 436, 437, 440, 441, 442, 443, 447, 448, 449, 450, 451, 452, 453, 454, 455, 456, 457, 458, 459, 460] from 9999 (fun _ _ _ _ _ _ _ _ _ _ _ _ _ _ _ _ _ _ _ _ _ _ _ _ _ _ _ _ _ _ _ _ _ _ _ _ _ _ _ wc => ∃ (kq : Nat), Aside0 (laws_FnOrdersTurn.j7 kq t460 t461 t464 t465 = some r) ∧ Aside0 (kq ≤ kj120) ∧ Aside0 (Kd.N (Kd.slice 3 (Kd.int .i64)) 31 wc w.heap.size (fun _ => True) (.slice Ao102 t461.length co102) t461) ∧ Aside0 (Below w.heap.size w wc))
                             case first => as_aux_lemma =>
                              have H := HC134.out
                              clear HC134
                              by_cases c135 : t457 = true
                              ·subst c135
                               rw [if_pos rfl] at H
                               have H' := Aside0.mk H
                               clear H
                               go_wp2_with (first | ((with_reducible refine gate_dst (N := 462) rfl ?_); (try (refine gate_guard (by rfl) ?_; dsimp only)); refine iter_event ?hg (N := 462) ?hd (s := t450) ?hx Tryd.underlying9 ?_; (case hd => rfl); (case hg => rfl); (case hx => exact ⟨_, rfl, by first | rfl | (go_simp; done) | (go_simp; rfl)⟩); intro gb475 hg w136 hbox hb; replace HO_54 := Aside0.mk (Kd.N_below (Kd.N_elderB (by (with_reducible repeat (first | apply Kd.N_alloc | apply Kd.N_drewN | apply Kd.N_drew)); exact HO_54.out) gb475 (Nat.le_of_eq hg.symm)) hb); have IT475 := Aside0.mk (hbox); have GW475 := gs hg; have GE475 := gs hg; replace HB := bs hb; clear hb hbox hg))
                               (try simp only [Act.put, List.setIfInBounds_toArray, List.set_cons_zero, List.set_cons_succ])
                               go_loopg [] kj120 (fun kq w' => ∃ (x476000_4 : Int), Aside0 (laws_FnOrdersTurn.l3 kq t450 t451 t456 t460 t461 t464 t465 x476000_4 t450 = some r) ∧ Aside0 (kq ≤ kj120) ∧ Aside0 (Kd.N (Kd.slice 3 (Kd.int .i64)) 31 w' w.heap.size (fun k_ => k_ ≠ gb475) (.slice Ao102 t461.length co102) t461) ∧ Aside0 (w'.heap[gb475]? = some (.stringIter t450 (x476000_4 : Int).toNat)) ∧ Aside0 (Below w.heap.size w w'))
                               case atStart => exact ⟨(0), H', ⟨Nat.le_refl _⟩, ⟨by (with_reducible repeat (first | apply Kd.N_alloc | apply Kd.N_drewN | apply Kd.N_drew)); exact Kd.N_mono HO_54.out (fun _ hk => hk.2)⟩, ⟨by (with_reducible repeat (first | refine blk_drewN ?_ _ | refine blk_drew ?_ | refine blk_alloc ?_ _)); exact IT475.out⟩, ⟨bw⟩⟩
                               case round =>
                                clear H'
                                repeat (first|clear c1|clear p1|clear q1|clear hx1|clear c2|clear p2|clear c3|clear c4|clear p4|clear q4|clear hx4|clear c5|clear c6|clear p6|clear c7|clear c8|clear c9|clear c10|clear c11|clear p11|clear q11|clear hx11|clear c12|clear p12|clear q12|clear hx12|clear c13|clear p13|clear q13|clear hx13|clear c14|clear c14b0|clear c14b1|clear c14b2|clear c16|clear c17|clear c17b0|clear c17b1|clear c17b2|clear c18|clear c18b0|clear c18b1|clear c19|clear c19b0|clear c19b1|clear c19b2|clear c20|clear c21|clear c22|clear c22b0|clear c22b1|clear c22b2|clear c23|clear c23b0|clear c23b1|clear c24|clear c24b0|clear c24b1|clear c24b2|clear c25|clear c25b0|clear c25b1|clear c25b2|clear c26|clear c26b0|clear c26b1|clear c26b2|clear c27|clear c28|clear c29|clear c30|clear c41|clear p43|clear q43|clear hx43|clear c44|clear c45|clear c45b0|clear c45b1|clear c46|clear c46b0|clear c46b1|clear c47|clear c48|clear c48b0|clear c49|clear c49b0|clear c49b1|clear c51|clear c52|clear c52b0|clear c53|clear c53b0|clear c55|clear c55b0|clear c56|clear c56b0|clear c57|clear c57b0|clear c59|clear c61|clear c61b0|clear c61b1|clear c62|clear c62b0|clear c62b1|clear p64|clear c65|clear c66|clear c67|clear c67b0|clear c68|clear c68b0|clear c85|clear c85b0|clear c85b1|clear c85b2|clear c86|clear c86b0|clear c86b1|clear c87|clear c87b0|clear c87b1|clear c87b2|clear c88|clear c88b0|clear c88b1|clear c89|clear c89b0|clear c89b1|clear c89b2|clear c90|clear c90b0|clear c90b1|clear c91|clear c91b0|clear c91b1|clear c91b2|clear c92|clear c92b0|clear c92b1|clear c93|clear c93b0|clear c93b1|clear c93b2|clear c94|clear c94b0|clear c94b1|clear c105|clear c107|clear c107b0|clear c108|clear c108b0|clear c108b1|clear c109|clear c109b0|clear c109b1|clear c110|clear c110b0|clear p111|clear q111|clear hx111|clear c112|clear c112b0|clear p113|clear q113|clear hx113|clear c114|clear c114b0|clear c115|clear c115b0|clear c115b1|clear c115b2|clear c118|clear c118b0|clear c118b1|clear c118b2|clear c122|clear c124|clear c124b0|clear c125|clear c125b0|clear c125b1|clear c126|clear c126b0|clear c126b1|clear c127|clear c127b0|clear p128|clear q128|clear hx128|clear c129|clear c129b0|clear p130|clear q130|clear hx130|clear c131|clear c131b0|clear c131b1|clear c131b2|clear c135|clear hx436_0|clear p436|clear q436)
                                obtain ⟨x476000_4, HA, HK4, HO_54, IT475, HB⟩ := hrel
                                cases gk with
                                | zero => exact absurd HA.out (by simp [laws_FnOrdersTurn.l3])
                                | succ k4 =>
                                 have H := HA.out
                                 clear HA
                                 simp only [laws_FnOrdersTurn.l3] at H
                                 by_cases c137 : x476000_4 < (t450.size : Int)
                                 ·rw [if_pos c137] at H
                                  have c137b0 : decide (x476000_4 < (t450.size : Int)) = true := decide_eq_true c137
                                  clear c137
                                  (first | rw [c137b0] | rw [@decide_eq_true _ _ (of_decide_eq_true c137b1)] | rw [@decide_eq_false _ _ (of_decide_eq_false c137b1)] | (simp only [i64_w, i32_w]; rw [c137b0]) | skip)
                                  by_cases c138 : 0 ≤ x476000_4
                                  ·rw [if_pos c138] at H
                                   have c138b0 := eq_true c138
                                   have c138b1 : decide (0 ≤ x476000_4) = true := decide_eq_true c138
                                   clear c138
                                   by_cases c139 : bt t450 x476000_4 < 128
                                   ·rw [if_pos c139] at H
                                    have c139b0 := eq_true c139
                                    have c139b1 : decide (bt t450 x476000_4 < 128) = true := decide_eq_true c139
                                    clear c139
                                    by_cases c140 : x476000_4 < (t456.size : Int)
                                    ·rw [if_pos c140] at H
                                     have c140b0 : decide (x476000_4 < (t456.size : Int)) = true := decide_eq_true c140
                                     clear c140
                                     by_cases c142 : x476000_4 < (t450.size : Int)
                                     ·rw [if_pos c142] at H
                                      have c142b0 : decide (x476000_4 < (t450.size : Int)) = true := decide_eq_true c142
                                      clear c142
                                      by_cases c144 : x476000_4 ≥ (wrap64 (t451 - 1))
                                      ·rw [if_pos c144] at H
                                       have c144b0 : decide ((wrap64 (t451 - 1)) ≤ x476000_4) = true := decide_eq_true c144
                                       clear c144
                                       by_cases c145 : (((bt t456 x476000_4) != (bt t450 x476000_4)) != (decide (x476000_4 ≤ (wrap64 (t451 + 1))))) = true
                                       ·rw [if_pos c145] at H
                                        exact absurd (Option.some.inj H) (by rw [HRT.out]; decide)
                                       ·rw [if_neg c145] at H
                                        have c145b0 : (((bt t456 x476000_4) != (bt t450 x476000_4)) != (decide (x476000_4 ≤ (wrap64 (t451 + 1))))) = false := by simpa using c145
                                        (try (have c145b1 : decide (((bt t456 x476000_4) != (bt t450 x476000_4)) = (decide (x476000_4 ≤ (wrap64 (t451 + 1))))) = true := by simpa using c145))
                                        (try (have c145b2 : (((bt t456 x476000_4) != (bt t450 x476000_4)) == (decide (x476000_4 ≤ (wrap64 (t451 + 1))))) = true := by simpa using c145))
                                        clear c145
                                        have H' := Aside0.mk H
                                        clear H
                                        try go_wp2_with (first | ((with_reducible refine gate_dst (N := 463) rfl ?_); (try (refine gate_guard (by rfl) ?_; dsimp only)); refine next_event ?hg (N := 463) ?hd (g := gb475) (s := t450) (p := x476000_4) ?hx ?hb ?h0 ?h1 ?h2 ?_; (case hd => rfl); (case hg => rfl); (case hx => exact ⟨_, rfl, by first | rfl | (go_simp; done) | (go_simp; rfl)⟩); (case hb => exact (by (with_reducible repeat (first | refine blk_drewN ?_ _ | refine blk_drew ?_ | refine blk_alloc ?_ _)); exact IT475.out)); (case h0 => first | (with_reducible decide) | exact of_decide_eq_true asm); (case h1 => exact of_decide_eq_true asm); (case h2 => exact of_decide_eq_true asm); intro w146 hbox hk; replace HO_54 := Aside0.mk (Kd.N_turned (ok := fun k_ => k_ ≠ gb475) (by (with_reducible repeat (first | apply Kd.N_alloc | apply Kd.N_drewN | apply Kd.N_drew)); exact HO_54.out) (fun k_ hk_ => hk_) hk); replace IT475 := Aside0.mk (hbox); replace HB := Aside0.mk (below_turned bw GE475.out hk); clear hbox hk))
                                        replace HO_54 := Aside0.mk (Kd.N_drew HO_54.out)
                                        replace IT475 := Aside0.mk (blk_drew IT475.out)
                                        replace HB := Aside0.mk (below_drew1 HB.out)
                                        have p141 : 0 ≤ (x476000_4 : Int) := of_decide_eq_true asm
                                        have q141 : x476000_4 < (t456.size : Int) := of_decide_eq_true asm
                                        have hx141 := bt_at t456 x476000_4
                                        replace p141 := eq_true p141
                                        replace q141 := eq_true q141
                                        have p143 : 0 ≤ (x476000_4 : Int) := of_decide_eq_true asm
                                        have q143 : x476000_4 < (t450.size : Int) := of_decide_eq_true asm
                                        have hx143 := bt_at t450 x476000_4
                                        replace p143 := eq_true p143
                                        replace q143 := eq_true q143
                                        refine start_ (n := 18) (S := fun w' => True) (ds := []) (tb 18 0) (by kernel_rfl) rfl rfl trivial (fun hHeld => ?_); refine with_tabW laws_FnOrdersTurn.tab67 laws_FnOrdersTurn.bits67 (fun HT_ HW_ => ?_)
                                        generalize w146.drew = w147 at HO_54 IT475 HB hHeld ⊢
                                        refine pu 0 (some 466) (tb 18 1) ?_
                                        refine pu 1 (some 467) (tb 18 3) ?_
                                        refine pu 3 (some 469) (tb 18 11) ?_
                                        refine pu 4 (some 470) (tb 18 27) ?_
                                        refine pu 7 (some 473) (tb 18 155) ?_
                                        refine pu 8 (some 474) (tb 18 411) ?_
                                        refine pu 9 (some 475) (tb 18 923) ?_
                                        refine pu 10 (some 476) (tb 18 1947) ?_
                                        refine pu 11 (some 477) (tb 18 3995) ?_
                                        refine pu 12 (some 478) (tb 18 8091) ?_
                                        refine pu 13 (some 479) (tb 18 16283) ?_
                                        refine pu 14 (some 480) (tb 18 32667) ?_
                                        refine pu 15 (some 481) (tb 18 65435) ?_
                                        refine pu 16 (some 482) (tb 18 130971) ?_
                                        refine take_ (i := 2) (N := some 468) (v := ?_) (a' := ?_) (tb 18 130975) rfl rfl (take_ofW HT_.out HW_.out (by kernel_rfl)) (fun _ _ _ h => h) (Or.inl ⟨by rfl, ?_⟩) hHeld ?_ ?_
                                        rotate_left
                                        ·intro w' _
                                         go_simp
                                         with_reducible rfl
                                        rotate_left
                                        ·simp only [Act.put, List.setIfInBounds_toArray, List.set_cons_zero, List.set_cons_succ, i64_w, i32_w]
                                         rfl
                                        refine take_ (i := 5) (N := some 471) (v := ?_) (a' := ?_) (tb 18 131007) rfl rfl (take_ofW HT_.out HW_.out (by kernel_rfl)) (fun _ _ _ h => h) (Or.inl ⟨by rfl, ?_⟩) hHeld ?_ ?_
                                        rotate_left
                                        ·intro w' _
                                         go_simp
                                         with_reducible rfl
                                        rotate_left
                                        ·simp only [Act.put, List.setIfInBounds_toArray, List.set_cons_zero, List.set_cons_succ, i64_w, i32_w]
                                         rfl
                                        refine pu 6 (some 472) (tb 18 131071) ?_
                                        refine pu 17 (some 483) (tb 18 262143) ?_
                                        refine done_ (done_of HT_.out (by kernel_rfl)) ?_
                                        try go_wp2
                                        go_roundg k4
                                        case measure => have := HJ26.out; have := HJ94.out; have := HJ120.out; have := HK4.out; omega
                                        case rel => exact ⟨(x476000_4 + 1), H', ⟨by have := HJ26.out; have := HJ94.out; have := HJ120.out; have := HK4.out; omega⟩, ⟨by (with_reducible repeat (first | apply Kd.N_alloc | apply Kd.N_drewN | apply Kd.N_drew)); exact HO_54.out⟩, ⟨by (with_reducible repeat (first | refine blk_drewN ?_ _ | refine blk_drew ?_ | refine blk_alloc ?_ _)); exact IT475.out⟩, ⟨bw⟩⟩
                                      ·rw [if_neg c144] at H
                                       have c144b0 : decide ((wrap64 (t451 - 1)) ≤ x476000_4) = false := decide_eq_false c144
                                       clear c144
                                       by_cases c148 : (((bt t456 x476000_4) != (bt t450 x476000_4)) != false) = true
                                       ·rw [if_pos c148] at H
                                        exact absurd (Option.some.inj H) (by rw [HRT.out]; decide)
                                       ·rw [if_neg c148] at H
                                        have c148b0 : (((bt t456 x476000_4) != (bt t450 x476000_4)) != false) = false := by simpa using c148
                                        (try (have c148b1 : decide (((bt t456 x476000_4) != (bt t450 x476000_4)) = false) = true := by simpa using c148))
                                        (try (have c148b2 : (((bt t456 x476000_4) != (bt t450 x476000_4)) == false) = true := by simpa using c148))
                                        clear c148
                                        have H' := Aside0.mk H
                                        clear H
                                        try go_wp2_with (first | ((with_reducible refine gate_dst (N := 463) rfl ?_); (try (refine gate_guard (by rfl) ?_; dsimp only)); refine next_event ?hg (N := 463) ?hd (g := gb475) (s := t450) (p := x476000_4) ?hx ?hb ?h0 ?h1 ?h2 ?_; (case hd => rfl); (case hg => rfl); (case hx => exact ⟨_, rfl, by first | rfl | (go_simp; done) | (go_simp; rfl)⟩); (case hb => exact (by (with_reducible repeat (first | refine blk_drewN ?_ _ | refine blk_drew ?_ | refine blk_alloc ?_ _)); exact IT475.out)); (case h0 => first | (with_reducible decide) | exact of_decide_eq_true asm); (case h1 => exact of_decide_eq_true asm); (case h2 => exact of_decide_eq_true asm); intro w149 hbox hk; replace HO_54 := Aside0.mk (Kd.N_turned (ok := fun k_ => k_ ≠ gb475) (by (with_reducible repeat (first | apply Kd.N_alloc | apply Kd.N_drewN | apply Kd.N_drew)); exact HO_54.out) (fun k_ hk_ => hk_) hk); replace IT475 := Aside0.mk (hbox); replace HB := Aside0.mk (below_turned bw GE475.out hk); clear hbox hk))
                                        replace HO_54 := Aside0.mk (Kd.N_drew HO_54.out)
                                        replace IT475 := Aside0.mk (blk_drew IT475.out)
                                        replace HB := Aside0.mk (below_drew1 HB.out)
                                        have p141 : 0 ≤ (x476000_4 : Int) := of_decide_eq_true asm
                                        have q141 : x476000_4 < (t456.size : Int) := of_decide_eq_true asm
                                        have hx141 := bt_at t456 x476000_4
                                        replace p141 := eq_true p141
                                        replace q141 := eq_true q141
                                        have p143 : 0 ≤ (x476000_4 : Int) := of_decide_eq_true asm
                                        have q143 : x476000_4 < (t450.size : Int) := of_decide_eq_true asm
                                        have hx143 := bt_at t450 x476000_4
                                        replace p143 := eq_true p143
                                        replace q143 := eq_true q143
                                        refine start_ (n := 18) (S := fun w' => True) (ds := []) (tb 18 0) (by kernel_rfl) rfl rfl trivial (fun hHeld => ?_); refine with_tabW laws_FnOrdersTurn.tab67 laws_FnOrdersTurn.bits67 (fun HT_ HW_ => ?_)
                                        generalize w149.drew = w150 at HO_54 IT475 HB hHeld ⊢
                                        refine pu 0 (some 466) (tb 18 1) ?_
                                        refine pu 1 (some 467) (tb 18 3) ?_
                                        refine pu 3 (some 469) (tb 18 11) ?_
                                        refine pu 4 (some 470) (tb 18 27) ?_
                                        refine pu 7 (some 473) (tb 18 155) ?_
                                        refine pu 8 (some 474) (tb 18 411) ?_
                                        refine pu 9 (some 475) (tb 18 923) ?_
                                        refine pu 10 (some 476) (tb 18 1947) ?_
                                        refine pu 11 (some 477) (tb 18 3995) ?_
                                        refine pure_ (i := 12) (N := some 478) (v := undef) (a' := ?_) (tb 18 8091) rfl rfl (any_of HT_.out (by kernel_rfl)) (fun _ _ _ h => h) (Or.inr ⟨by rfl, rfl⟩) ?_ ?_
                                        rotate_left
                                        ·simp only [Act.put, List.setIfInBounds_toArray, List.set_cons_zero, List.set_cons_succ, i64_w, i32_w]
                                         rfl
                                        refine pure_ (i := 13) (N := some 479) (v := undef) (a' := ?_) (tb 18 16283) rfl rfl (any_of HT_.out (by kernel_rfl)) (fun _ _ _ h => h) (Or.inr ⟨by rfl, rfl⟩) ?_ ?_
                                        rotate_left
                                        ·simp only [Act.put, List.setIfInBounds_toArray, List.set_cons_zero, List.set_cons_succ, i64_w, i32_w]
                                         rfl
                                        refine pure_ (i := 14) (N := some 480) (v := undef) (a' := ?_) (tb 18 32667) rfl rfl (any_of HT_.out (by kernel_rfl)) (fun _ _ _ h => h) (Or.inr ⟨by rfl, rfl⟩) ?_ ?_
                                        rotate_left
                                        ·simp only [Act.put, List.setIfInBounds_toArray, List.set_cons_zero, List.set_cons_succ, i64_w, i32_w]
                                         rfl
                                        refine pure_ (i := 15) (N := some 481) (v := undef) (a' := ?_) (tb 18 65435) rfl rfl (any_of HT_.out (by kernel_rfl)) (fun _ _ _ h => h) (Or.inr ⟨by rfl, rfl⟩) ?_ ?_
                                        rotate_left
                                        ·simp only [Act.put, List.setIfInBounds_toArray, List.set_cons_zero, List.set_cons_succ, i64_w, i32_w]
                                         rfl
                                        refine pu 16 (some 482) (tb 18 130971) ?_
                                        refine take_ (i := 2) (N := some 468) (v := ?_) (a' := ?_) (tb 18 130975) rfl rfl (take_ofW HT_.out HW_.out (by kernel_rfl)) (fun _ _ _ h => h) (Or.inl ⟨by rfl, ?_⟩) hHeld ?_ ?_
                                        rotate_left
                                        ·intro w' _
                                         go_simp
                                         with_reducible rfl
                                        rotate_left
                                        ·simp only [Act.put, List.setIfInBounds_toArray, List.set_cons_zero, List.set_cons_succ, i64_w, i32_w]
                                         rfl
                                        refine take_ (i := 5) (N := some 471) (v := ?_) (a' := ?_) (tb 18 131007) rfl rfl (take_ofW HT_.out HW_.out (by kernel_rfl)) (fun _ _ _ h => h) (Or.inl ⟨by rfl, ?_⟩) hHeld ?_ ?_
                                        rotate_left
                                        ·intro w' _
                                         go_simp
                                         with_reducible rfl
                                        rotate_left
                                        ·simp only [Act.put, List.setIfInBounds_toArray, List.set_cons_zero, List.set_cons_succ, i64_w, i32_w]
                                         rfl
                                        refine pu 6 (some 472) (tb 18 131071) ?_
                                        refine pu 17 (some 483) (tb 18 262143) ?_
                                        refine done_ (done_of HT_.out (by kernel_rfl)) ?_
                                        try go_wp2
                                        go_roundg k4
                                        case measure => have := HJ26.out; have := HJ94.out; have := HJ120.out; have := HK4.out; omega
                                        case rel => exact ⟨(x476000_4 + 1), H', ⟨by have := HJ26.out; have := HJ94.out; have := HJ120.out; have := HK4.out; omega⟩, ⟨by (with_reducible repeat (first | apply Kd.N_alloc | apply Kd.N_drewN | apply Kd.N_drew)); exact HO_54.out⟩, ⟨by (with_reducible repeat (first | refine blk_drewN ?_ _ | refine blk_drew ?_ | refine blk_alloc ?_ _)); exact IT475.out⟩, ⟨bw⟩⟩
                                     ·rw [if_neg c142] at H
                                      exact absurd H (by simp)
                                    ·rw [if_neg c140] at H
                                     exact absurd H (by simp)
                                   ·rw [if_neg c139] at H
                                    exact absurd H (by simp)
                                  ·rw [if_neg c138] at H
                                   exact absurd H (by simp)
                                 ·rw [if_neg c137] at H
                                  have c137b0 : decide (x476000_4 < (t450.size : Int)) = false := decide_eq_false c137
                                  clear c137
                                  (first | rw [c137b0] | rw [@decide_eq_true _ _ (of_decide_eq_true c137b1)] | rw [@decide_eq_false _ _ (of_decide_eq_false c137b1)] | (simp only [i64_w, i32_w]; rw [c137b0]) | skip)
                                  have H' := Aside0.mk H
                                  clear H
                                  go_wp2_with (first | ((with_reducible refine gate_dst (N := 463) rfl ?_); (try (refine gate_guard (by rfl) ?_; dsimp only)); refine next_end_event ?hg (N := 463) ?hd (g := gb475) (s := t450) (p := x476000_4) ?hx ?hb ?h1 ?_; (case hd => rfl); (case hg => rfl); (case hx => exact ⟨_, rfl, by first | rfl | (go_simp; done) | (go_simp; rfl)⟩); (case hb => exact (by (with_reducible repeat (first | refine blk_drewN ?_ _ | refine blk_drew ?_ | refine blk_alloc ?_ _)); exact IT475.out)); (case h1 => exact of_decide_eq_false asm)))
                                  go_meet
                                  case rel => exact ⟨_, H', ⟨by have := HJ26.out; have := HJ94.out; have := HJ120.out; have := HK4.out; first | omega | exact Nat.le_refl _⟩, ⟨by (with_reducible repeat (first | apply Kd.N_alloc | apply Kd.N_drewN | apply Kd.N_drew)); exact Kd.N_mono HO_54.out (fun _ hk => trivial)⟩, ⟨bw⟩⟩
                              ·replace c135 := Bool.eq_false_iff.mpr c135
                               subst c135
                               rw [if_neg (show ¬ (false = true) by decide)] at H
                               have H' := Aside0.mk H
                               clear H
                               go_wp2
                               go_meet
                               case rel => exact ⟨_, H', ⟨by have := HJ26.out; have := HJ94.out; have := HJ120.out; first | omega | exact Nat.le_refl _⟩, ⟨by (with_reducible repeat (first | apply Kd.N_alloc | apply Kd.N_drewN | apply Kd.N_drew)); exact HO_54.out⟩, ⟨bw⟩⟩
                             case rest =>
                              clear HC134
                              repeat (first|clear c1|clear p1|clear q1|clear hx1|clear c2|clear p2|clear c3|clear c4|clear p4|clear q4|clear hx4|clear c5|clear c6|clear p6|clear c8|clear c9|clear c10|clear c11|clear p11|clear q11|clear hx11|clear c12|clear p12|clear q12|clear hx12|clear c13|clear p13|clear q13|clear hx13|clear c14|clear p14|clear q14|clear hx14|clear c19|clear c19b0|clear c19b1|clear c19b2|clear c20|clear c21|clear c22|clear c22b0|clear c22b1|clear c22b2|clear c23|clear c23b0|clear c23b1|clear c24|clear c24b0|clear c24b1|clear c24b2|clear c25|clear c25b0|clear c25b1|clear c25b2|clear c26|clear c26b0|clear c26b1|clear c26b2|clear c27|clear c28|clear c29|clear c30|clear c41|clear p43|clear q43|clear hx43|clear c44|clear c45|clear c45b0|clear c45b1|clear c46|clear c46b0|clear c46b1|clear c47|clear c48|clear c48b0|clear c49|clear c49b0|clear c49b1|clear c51|clear c52|clear c52b0|clear c53|clear c53b0|clear c55|clear c55b0|clear c56|clear c56b0|clear c57|clear c57b0|clear c59|clear c61|clear c61b0|clear c61b1|clear c62|clear c62b0|clear c62b1|clear p64|clear c65|clear c66|clear c67|clear c67b0|clear c68|clear c68b0|clear c85|clear c85b0|clear c85b1|clear c85b2|clear c86|clear c86b0|clear c86b1|clear c87|clear c87b0|clear c87b1|clear c87b2|clear c88|clear c88b0|clear c88b1|clear c89|clear c89b0|clear c89b1|clear c89b2|clear c90|clear c90b0|clear c90b1|clear c91|clear c91b0|clear c91b1|clear c91b2|clear c92|clear c92b0|clear c92b1|clear c93|clear c93b0|clear c93b1|clear c93b2|clear c94|clear c94b0|clear c94b1|clear c105|clear c107|clear c107b0|clear c108|clear c108b0|clear c108b1|clear c109|clear c109b0|clear c109b1|clear c110|clear c110b0|clear p111|clear q111|clear hx111|clear c112|clear c112b0|clear p113|clear q113|clear hx113|clear c114|clear c114b0|clear c115|clear c115b0|clear c115b1|clear c115b2|clear c118|clear c118b0|clear c118b1|clear c118b2|clear c122|clear c124|clear c124b0|clear c125|clear c125b0|clear c125b1|clear c126|clear c126b0|clear c126b1|clear c127|clear c127b0|clear p128|clear q128|clear hx128|clear c129|clear c129b0|clear p130|clear q130|clear hx130|clear c131|clear c131b0|clear c131b1|clear c131b2|clear c135|clear c137|clear c137b0|clear c138|clear c138b0|clear c138b1|clear c139|clear c139b0|clear c139b1|clear c140|clear c140b0|clear p141|clear q141|clear hx141|clear c142|clear c142b0|clear p143|clear q143|clear hx143|clear c144|clear c144b0|clear c145|clear c145b0|clear c145b1|clear c145b2|clear c148|clear c148b0|clear c148b1|clear c148b2|clear hx436_0|clear p436|clear q436)
                              obtain ⟨kq, HA, HJ133, HO_54, HB⟩ := hcut
                              cases kq with
                              | zero => exact absurd HA.out (by simp [laws_FnOrdersTurn.j7])
                              | succ kj133 =>
                               have H := HA.out
                               clear HA
                               simp only [laws_FnOrdersTurn.j7] at H
                               by_cases c151 : t465 = true
                               ·subst c151
                                rw [if_pos rfl] at H
                                have H' := Aside0.mk H
                                clear H
                                go_wp2
                                go_loopg [67, 488] kj133 (fun kq v67 v488 w' => ∃ (x67_5 : ByteArray) (x488_5 : Int), v67 = .string x67_5 ∧ v488 = .int .i64 x488_5 ∧ Aside0 (laws_FnOrdersTurn.l4 kq t464 x67_5 t461 (t461.length : Int) x488_5 = some r) ∧ Aside0 (kq ≤ kj133) ∧ Aside0 (Kd.N (Kd.slice 3 (Kd.int .i64)) 31 w' w.heap.size (fun _ => True) (.slice Ao102 t461.length co102) t461) ∧ Aside0 (Below w.heap.size w w'))
                                case atStart => exact ⟨(t460), (0), (rs), (rs), H', ⟨Nat.le_refl _⟩, ⟨by (with_reducible repeat (first | apply Kd.N_alloc | apply Kd.N_drewN | apply Kd.N_drew)); exact HO_54.out⟩, ⟨bw⟩⟩
                                case round =>
                                 clear H'
                                 repeat (first|clear c1|clear p1|clear q1|clear hx1|clear c2|clear p2|clear c3|clear c4|clear p4|clear q4|clear hx4|clear c5|clear c6|clear p6|clear c8|clear c9|clear c10|clear c11|clear p11|clear q11|clear hx11|clear c12|clear p12|clear q12|clear hx12|clear c13|clear p13|clear q13|clear hx13|clear c14|clear p14|clear q14|clear hx14|clear c15|clear c19|clear c19b0|clear c19b1|clear c19b2|clear c20|clear c21|clear c22|clear c22b0|clear c22b1|clear c22b2|clear c23|clear c23b0|clear c23b1|clear c24|clear c24b0|clear c24b1|clear c24b2|clear c25|clear c25b0|clear c25b1|clear c25b2|clear c26|clear c26b0|clear c26b1|clear c26b2|clear c27|clear c28|clear c29|clear c30|clear c41|clear p43|clear q43|clear hx43|clear c44|clear c45|clear c45b0|clear c45b1|clear c46|clear c46b0|clear c46b1|clear c47|clear c48|clear c48b0|clear c49|clear c49b0|clear c49b1|clear c51|clear c52|clear c52b0|clear c53|clear c53b0|clear c55|clear c55b0|clear c56|clear c56b0|clear c57|clear c57b0|clear c59|clear c61|clear c61b0|clear c61b1|clear c62|clear c62b0|clear c62b1|clear p64|clear c65|clear c66|clear c67|clear c67b0|clear c68|clear c68b0|clear c85|clear c85b0|clear c85b1|clear c85b2|clear c86|clear c86b0|clear c86b1|clear c87|clear c87b0|clear c87b1|clear c87b2|clear c88|clear c88b0|clear c88b1|clear c89|clear c89b0|clear c89b1|clear c89b2|clear c90|clear c90b0|clear c90b1|clear c91|clear c91b0|clear c91b1|clear c91b2|clear c92|clear c92b0|clear c92b1|clear c93|clear c93b0|clear c93b1|clear c93b2|clear c94|clear c94b0|clear c94b1|clear c105|clear c107|clear c107b0|clear c108|clear c108b0|clear c108b1|clear c109|clear c109b0|clear c109b1|clear c110|clear c110b0|clear p111|clear q111|clear hx111|clear c112|clear c112b0|clear p113|clear q113|clear hx113|clear c114|clear c114b0|clear c115|clear c115b0|clear c115b1|clear c115b2|clear c118|clear c118b0|clear c118b1|clear c118b2|clear c122|clear c124|clear c124b0|clear c125|clear c125b0|clear c125b1|clear c126|clear c126b0|clear c126b1|clear c127|clear c127b0|clear p128|clear q128|clear hx128|clear c129|clear c129b0|clear p130|clear q130|clear hx130|clear c131|clear c131b0|clear c131b1|clear c131b2|clear c135|clear c137|clear c137b0|clear c138|clear c138b0|clear c138b1|clear c139|clear c139b0|clear c139b1|clear c140|clear c140b0|clear p141|clear q141|clear hx141|clear c142|clear c142b0|clear p143|clear q143|clear hx143|clear c144|clear c144b0|clear c145|clear c145b0|clear c145b1|clear c145b2|clear c148|clear c148b0|clear c148b1|clear c148b2|clear c151|clear hx436_0|clear p436|clear q436)
                                 obtain ⟨x67_5, x488_5, rfl, rfl, HA, HK5, HO_486, HB⟩ := hrel
                                 cases gk with
                                 | zero => exact absurd HA.out (by simp [laws_FnOrdersTurn.l4])
                                 | succ k5 =>
                                  have H := HA.out
                                  clear HA
                                  simp only [laws_FnOrdersTurn.l4] at H
                                  by_cases c152 : x488_5 < (t461.length : Int)
                                  ·rw [if_pos c152] at H
                                   have c152b0 : decide (x488_5 < (t461.length : Int)) = true := decide_eq_true c152
                                   clear c152
                                   by_cases c153 : 0 ≤ x488_5
                                   ·rw [if_pos c153] at H
                                    have c153b0 : decide (0 ≤ x488_5) = true := decide_eq_true c153
                                    clear c153
                                    by_cases c154 : x488_5 < (t461.length : Int)
                                    ·rw [if_pos c154] at H
                                     have c154b0 : decide (x488_5 < (t461.length : Int)) = true := decide_eq_true c154
                                     clear c154
                                     by_cases c155 : 0 < ((rd_L3 t461 x488_5).length : Int)
                                     ·rw [if_pos c155] at H
                                      have c155b0 : decide (0 < ((rd_L3 t461 x488_5).length : Int)) = true := decide_eq_true c155
                                      have c155b1 : decide (0 < (rd_L3 t461 x488_5).length) = true := decide_eq_true (by omega)
                                      clear c155
                                      by_cases c156 : 1 < ((rd_L3 t461 x488_5).length : Int)
                                      ·rw [if_pos c156] at H
                                       have c156b0 : decide (1 < ((rd_L3 t461 x488_5).length : Int)) = true := decide_eq_true c156
                                       have c156b1 : decide (1 < (rd_L3 t461 x488_5).length) = true := decide_eq_true (by omega)
                                       clear c156
                                       replace H := Option.bind_eq_some_iff.mp H
                                       obtain ⟨⟨t479, t480⟩, A1570, H⟩ := H
                                       (try dsimp only at H)
                                       have A157 := Aside0.mk A1570
                                       clear A1570
                                       by_cases c158 : t480 = true
                                       ·subst c158
                                        rw [if_pos rfl] at H
                                        have H' := Aside0.mk H
                                        clear H
                                        have p476 : 0 ≤ (x488_5 : Int) := of_decide_eq_true asm
                                        have q476 : x488_5 < (t461.length : Int) := of_decide_eq_true asm
                                        obtain ⟨ad476, A476_0, c476_0, e476, hx476_0, hl476_0, hi476_0⟩ := at_L3 (Kd.N_reads' HO_486.out).2.2 x488_5 p476 q476
                                        cases e476
                                        obtain ⟨ce476, hce476, hMe476, hcc476⟩ := Kd.N_get HO_486.out [] x488_5 p476 (by first | exact q476 | exact of_decide_eq_true asm | (have e_ := (Kd.N_reads' HO_486.out).1; omega))
                                        obtain ⟨ua476_0, uc476_0, rfl, ul476_0, ge476_0⟩ := Kd.FK_slice_open hMe476
                                        have hv476_0 := hcc476 0 _ rfl
                                        rw [Nat.add_zero, show ((Kd.slice 3 (Kd.int .i64))).sz = 1 from rfl, Nat.mul_one] at hv476_0
                                        replace hv476_0 := Option.some.inj (hv476_0.symm.trans hx476_0)
                                        injection hv476_0 with hva_ hvn_ hvc_
                                        rw [hva_] at ge476_0
                                        rw [hvc_] at ul476_0
                                        have HL476_0 := Aside0.mk (show Kd.V (Kd.int .i64) 3 _ w.heap.size _ _ (rd_L3 t461 x488_5) from Kd.V_mk ul476_0 ge476_0)
                                        clear hva_ hvn_ hvc_ ge476_0 ul476_0
                                        clear hcc476 hce476
                                        have HR476_0 := Aside0.mk hi476_0
                                        have HC476_0 := Aside0.mk hl476_0
                                        clear hi476_0 hl476_0
                                        replace p476 := eq_true p476
                                        replace q476 := eq_true q476
                                        try go_wp2
                                        replace HO_486 := Aside0.mk (Kd.N_drew HO_486.out)
                                        replace HL476_0 := Aside0.mk (Kd.V_drew HL476_0.out)
                                        replace HR476_0 := Aside0.mk (Kd.C_drew HR476_0.out)
                                        replace HB := Aside0.mk (below_drew1 HB.out)
                                        have p477 : 0 ≤ (0 : Int) := (by omega)
                                        have q477 : 0 < ((rd_L3 t461 x488_5).length : Int) := of_decide_eq_true asm
                                        obtain ⟨ad477, e477, hx477_0⟩ := Kd.at_int (by repeat (first | (with_reducible exact HR476_0.out) | (with_reducible refine Kd.C_alloc ?_ _) | (with_reducible refine Kd.C_drewN ?_ _) | (with_reducible refine Kd.C_drew ?_) | exact HR476_0.out)) 0 p477 q477
                                        cases e477
                                        have qi477 : (0 < (rd_L3 t461 x488_5).length) = True := eq_true (by omega)
                                        (try rw [show ((0 : Int)).toNat = 0 from rfl] at hx477_0)
                                        (try rw [Addr.add_zero'] at hx477_0)
                                        replace p477 := eq_true p477
                                        replace q477 := eq_true q477
                                        have p478 : 0 ≤ (1 : Int) := (by omega)
                                        have q478 : 1 < ((rd_L3 t461 x488_5).length : Int) := of_decide_eq_true asm
                                        obtain ⟨ad478, e478, hx478_0⟩ := Kd.at_int (by repeat (first | (with_reducible exact HR476_0.out) | (with_reducible refine Kd.C_alloc ?_ _) | (with_reducible refine Kd.C_drewN ?_ _) | (with_reducible refine Kd.C_drew ?_) | exact HR476_0.out)) 1 p478 q478
                                        obtain rfl : ad477 = ad478 := (by injection e478)
                                        (try simp only [show (1 : Int).toNat = 1 from rfl, Nat.reduceMul, Nat.reduceEqDiff, Go.Addr.add, ↓reduceIte] at hx478_0)
                                        have qi478 : (1 < (rd_L3 t461 x488_5).length) = True := eq_true (by omega)
                                        (try rw [show ((1 : Int)).toNat = 1 from rfl] at hx478_0)
                                        replace p478 := eq_true p478
                                        replace q478 := eq_true q478
                                        refine start_ (n := 13) (S := fun w' => w'.cell? ad477 = some (.int .i64 (rd (rd_L3 t461 x488_5) 0)) ∧ w'.cell? ⟨ad477.block, ad477.off + 1, none⟩ = some (.int .i64 (rd (rd_L3 t461 x488_5) 1))) (ds := []) (tb 13 0) (by kernel_rfl) rfl rfl ⟨hx477_0, hx478_0⟩ (fun hHeld => ?_); refine with_tabW laws_FnOrdersTurn.tab74 laws_FnOrdersTurn.bits74 (fun HT_ HW_ => ?_)
                                        generalize wr.drew = w159 at HO_486 HL476_0 HR476_0 HB hx477_0 hx478_0 hHeld ⊢
                                        refine pu 0 (some 493) (tb 13 1) ?_
                                        refine pu 1 (some 494) (tb 13 3) ?_
                                        refine pu 2 (some 495) (tb 13 7) ?_
                                        refine pu 4 (some 497) (tb 13 23) ?_
                                        refine pu 5 (some 498) (tb 13 55) ?_
                                        refine take_ (i := 3) (N := some 496) (v := ?_) (a' := ?_) (tb 13 63) rfl rfl (take_ofW HT_.out HW_.out (by kernel_rfl)) (fun _ _ _ h => h) (Or.inl ⟨by rfl, ?_⟩) hHeld ?_ ?_
                                        rotate_left
                                        ·rintro w' ⟨s0, s1⟩
                                         go_simp
                                         with_reducible rfl
                                        rotate_left
                                        ·simp only [Act.put, List.setIfInBounds_toArray, List.set_cons_zero, List.set_cons_succ, i64_w, i32_w]
                                         rfl
                                        refine take_ (i := 6) (N := some 499) (v := ?_) (a' := ?_) (tb 13 127) rfl rfl (take_ofW HT_.out HW_.out (by kernel_rfl)) (fun _ _ _ h => h) (Or.inl ⟨by rfl, ?_⟩) hHeld ?_ ?_
                                        rotate_left
                                        ·rintro w' ⟨s0, s1⟩
                                         go_simp
                                         with_reducible rfl
                                        rotate_left
                                        ·simp only [Act.put, List.setIfInBounds_toArray, List.set_cons_zero, List.set_cons_succ, i64_w, i32_w]
                                         rfl
                                        refine one_ (i := 7) (N := some 500) (tb 13 255) rfl rfl (one_of HT_.out (by kernel_rfl)) (by decide) (fun K hK => ?_)
                                        refine goes_ Tryd.func20 (by kernel_rfl) rfl #[.string x67_5, .int .i64 (rd (rd_L3 t461 x488_5) 0), .int .i64 (rd (rd_L3 t461 x488_5) 1)] (by rfl) rfl rfl (by (try simp only [List.map_toArray, List.map_cons, List.map_nil]); first | done | rfl | (simp only [List.length_drop, List.length_take]; rfl)) ?_
                                        with_reducible refine (impl_TurnRun.calls x67_5 (rd (rd_L3 t461 x488_5) 0) (rd (rd_L3 t461 x488_5) 1) t479 true _ ?side1 A157.out).mono ?_
                                        (case side1 => exact Dr.mm HMM)
                                        rintro e w160 ⟨rfl, hb⟩
                                        have HS0_ := (hb.cell (World.block_lt_of_cell? _ _ (hHeld.1))).trans (hHeld.1)
                                        have HS1_ := (hb.cell (World.block_lt_of_cell? _ _ (hHeld.2))).trans (hHeld.2)
                                        refine ⟨_, rfl, ?_⟩
                                        replace HO_486 := Aside0.mk (Kd.N_below (by (with_reducible repeat (first | apply Kd.N_alloc | apply Kd.N_drewN | apply Kd.N_drew)); exact HO_486.out) hb)
                                        replace HL476_0 := Aside0.mk (Kd.V_below (by (with_reducible repeat (first | apply Kd.V_alloc | apply Kd.V_drewN | apply Kd.V_drew)); exact HL476_0.out) hb)
                                        replace HR476_0 := Aside0.mk (Kd.C_below (by repeat (first | (with_reducible exact HR476_0.out) | (with_reducible refine Kd.C_alloc ?_ _) | (with_reducible refine Kd.C_drewN ?_ _) | (with_reducible refine Kd.C_drew ?_) | exact HR476_0.out)) hb)
                                        replace HB := bs hb
                                        (try clear hb)
                                        refine hK.out _ _ ⟨HS0_, HS1_⟩ (fun hHeld => ?_)
                                        clear hK K
                                        refine nm (some 500) ?_
                                        refine pu 8 (some 492) (tb 13 511) ?_
                                        refine pu 9 (some 501) (tb 13 1023) ?_
                                        refine pu 10 (some 502) (tb 13 2047) ?_
                                        refine pu 11 (some 70) (tb 13 4095) ?_
                                        refine pu 12 (some 71) (tb 13 8191) ?_
                                        refine done_ (done_of HT_.out (by kernel_rfl)) ?_
                                        try go_wp2
                                        go_roundg k5
                                        case measure => have := HJ26.out; have := HJ94.out; have := HJ120.out; have := HJ133.out; have := HK5.out; omega
                                        case rel => exact ⟨(t479), (wrap64 (x488_5 + 1)), (rs), (rs), H', ⟨by have := HJ26.out; have := HJ94.out; have := HJ120.out; have := HJ133.out; have := HK5.out; omega⟩, ⟨by (with_reducible repeat (first | apply Kd.N_alloc | apply Kd.N_drewN | apply Kd.N_drew)); exact HO_486.out⟩, ⟨bw⟩⟩
                                       ·replace c158 := Bool.eq_false_iff.mpr c158
                                        subst c158
                                        rw [if_neg (show ¬ (false = true) by decide)] at H
                                        exact absurd (Option.some.inj H) (by rw [HRT.out]; decide)
                                      ·rw [if_neg c156] at H
                                       exact absurd H (by simp)
                                     ·rw [if_neg c155] at H
                                      exact absurd H (by simp)
                                    ·rw [if_neg c154] at H
                                     exact absurd H (by simp)
                                   ·rw [if_neg c153] at H
                                    exact absurd H (by simp)
                                  ·rw [if_neg c152] at H
                                   have c152b0 : decide (x488_5 < (t461.length : Int)) = false := decide_eq_false c152
                                   clear c152
                                   obtain rfl := Option.some.inj H
                                   go_wp2
                                   go_ret
                                   exact ⟨rs, bw⟩
                               ·replace c151 := Bool.eq_false_iff.mpr c151
                                subst c151
                                rw [if_neg (show ¬ (false = true) by decide)] at H
                                obtain rfl := Option.some.inj H
                                go_wp2
                                go_ret
                                exact ⟨rs, bw⟩
                        ·rw [if_neg c94] at H
                         exact absurd (Option.some.inj H) (by rw [HRT.out]; decide)
                      ·rw [if_neg c92] at H
                       exact absurd (Option.some.inj H) (by rw [HRT.out]; decide)
                    ·rw [if_neg c90] at H
                     exact absurd (Option.some.inj H) (by rw [HRT.out]; decide)
                  ·rw [if_neg c88] at H
                   exact absurd (Option.some.inj H) (by rw [HRT.out]; decide)
                ·rw [if_neg c86] at H
                 exact absurd (Option.some.inj H) (by rw [HRT.out]; decide)
         ·rw [if_neg c23] at H
          exact absurd (Option.some.inj H) (by rw [HRT.out]; decide)
       ·replace c21 := Bool.eq_false_iff.mpr c21
        subst c21
        rw [if_neg (show ¬ (false = true) by decide)] at H
        exact absurd (Option.some.inj H) (by rw [HRT.out]; decide)
     ·rw [if_neg c18] at H
      exact absurd (Option.some.inj H) (by rw [HRT.out]; decide)
   ·replace c16 := Bool.eq_false_iff.mpr c16
    subst c16
    rw [if_neg (show ¬ (false = true) by decide)] at H
    exact absurd (Option.some.inj H) (by rw [HRT.out]; decide)

end Go.Proofs.YteoklfgmdcofcaaDoor.PFnOrdersTurn
