-- Laid by xprint, a program of this session that runs over the kit's print.
import Derived.Test.YtfaakdokcldnkaaGreatDoorPFnRowsGuessedOfAllx25
import Derived.Test.YtfaakdokcldnkaaGreatDoorPFnRowsGuessedOfAllx26
namespace Go.Proofs.YtfaakdokcldnkaaGreatDoor.PFnRowsGuessedOfAll
open Go.RowKit Go.Proofs.YtfaakdokcldnkaaGreatDoorW.PrintWords Go.Proofs.YtfaakdokcldnkaaGreatDoorW.PrintLast Go.Proofs.YtfaakdokcldnkaaGreatDoorW.PrintMore Go.Proofs.YtfaakdokcldnkaaGreatDoor.Sq
attribute [local go_sem] max2_int min2_int max_two min_two max_three min_three max_four min_four   -- for this text's walks alone
set_option linter.unusedVariables false
set_option linter.unusedSimpArgs false

/-! ### laws_FnRowsGuessedOfAll: its contract -/
set_option maxHeartbeats 80000000 in
set_option maxRecDepth 100000 in
theorem laws_FnRowsGuessedOfAll.calls (k : Nat) (a0_0 : Int) (A0_1 : Option Addr) (c0_1 : Nat) (l0_1 : List (S42)) (a1 : ByteArray) (r : Bool) (w : World) (hm : Dr.Tab w) (hr0_1 : Kd.C k42 w A0_1 l0_1.length l0_1) (hc0_1 : l0_1.length ≤ c0_1) (hrt : r = true) (h : laws_FnRowsGuessedOfAll.f k a0_0 l0_1 a1 = some r) :
  Calls Tryz.prog 3 #[.agg #[.int .i64 a0_0, .slice A0_1 l0_1.length c0_1], .string a1] w fun e w' => e = .returned (.bool r) ∧ Below w.heap.size w w' := by
 have hu24 := Tryz.underlying24
 have hu42 := Tryz.underlying42
 have HR0_1 := Aside0.mk hr0_1
 have HC0_1 := Aside0.mk hc0_1
 clear hr0_1 hc0_1
 have HB := Aside0.mk (Below.refl w.heap.size w)
 have HRT := Aside0.mk hrt
 clear hrt
 have HMM := Aside0.mk hm
 clear hm
 unfold laws_FnRowsGuessedOfAll.f at h
 have H := h
 clear h
 by_cases c3 : (a1.size : Int) > 1048576
 ·rw [if_pos c3] at H
  have c3b0 := decide_eq_true c3
  have c3b1 : decide (1048576 < a1.size) = true := decide_eq_true (by omega)
  clear c3
  obtain rfl := Option.some.inj H
  go_enter Tryz.func3, Tryz.ntmps3
  go_wp2_with (first | ((with_reducible refine gd 2 ?_); (try (refine gate_guard (by rfl) ?_; dsimp only)); refine bx 2 24 #[.int .i64 a0_0, .slice A0_1 l0_1.length c0_1] ?_; intro gb488 hg w4 hbox hb; have BK488 := hbox; have GW488 := gs hg; have GE488 := gs hg; replace HB := bs hb; clear hb hbox hg))
  go_ret
  exact ⟨rs, bw⟩
 rw [if_neg c3] at H
 have c3b0 := decide_eq_false c3
 have c3b1 : decide (1048576 < a1.size) = false := decide_eq_false (by omega)
 clear c3
 replace H := ob H
 obtain ⟨⟨t489, t492⟩, A5, H⟩ := H
 (try dsimp only at H)
 replace H := ob H
 obtain ⟨⟨t493, t496⟩, A6, H⟩ := H
 (try dsimp only at H)
 replace H := ob H
 obtain ⟨⟨t497, t498⟩, A7, H⟩ := H
 (try dsimp only at H)
 replace H := ob H
 obtain ⟨⟨t499, t500⟩, A8, H⟩ := H
 (try dsimp only at H)
 replace H := ob H
 obtain ⟨⟨t501, t502⟩, A9, H⟩ := H
 (try dsimp only at H)
 replace H := ob H
 obtain ⟨⟨t503, t504⟩, A10, H⟩ := H
 (try dsimp only at H)
 replace H := ob H
 obtain ⟨⟨t505, t506⟩, A11, H⟩ := H
 (try dsimp only at H)
 replace H := ob H
 obtain ⟨⟨t507, t508⟩, A12, H⟩ := H
 (try dsimp only at H)
 replace H := ob H
 obtain ⟨⟨t509, t510⟩, A13, H⟩ := H
 (try dsimp only at H)
 replace H := ob H
 obtain ⟨⟨t511, t512⟩, A14, H⟩ := H
 (try dsimp only at H)
 replace H := ob H
 obtain ⟨⟨t513, t516⟩, A15, H⟩ := H
 (try dsimp only at H)
 replace H := ob H
 obtain ⟨⟨t517, t520⟩, A16, H⟩ := H
 (try dsimp only at H)
 replace H := ob H
 obtain ⟨⟨t521, t524⟩, A17, H⟩ := H
 (try dsimp only at H)
 replace H := ob H
 obtain ⟨⟨t525, t528⟩, A18, H⟩ := H
 (try dsimp only at H)
 replace H := ob H
 obtain ⟨⟨t529, t530⟩, A19, H⟩ := H
 (try dsimp only at H)
 replace H := ob H
 obtain ⟨⟨t531, t532⟩, A20, H⟩ := H
 (try dsimp only at H)
 replace H := ob H
 obtain ⟨⟨t533, t534⟩, A21, H⟩ := H
 (try dsimp only at H)
 replace H := ob H
 obtain ⟨⟨t535, t536⟩, A22, H⟩ := H
 (try dsimp only at H)
 have HC23 := Aside0.mk H
 clear H
 go_enter Tryz.func3, Tryz.ntmps3
 go_upto_region 21 with (first | ((with_reducible refine gd 2 ?_); (try (refine gate_guard (by rfl) ?_; dsimp only)); refine bx 2 24 #[.int .i64 a0_0, .slice A0_1 l0_1.length c0_1] ?_; intro gb488 hg w24 hbox hb; have BK488 := hbox; have GW488 := gs hg; have GE488 := gs hg; replace HB := bs hb; clear hb hbox hg; have hz25 := z2 BK488) | ((with_reducible refine gc 4 ?_); refine gl (some 66) Tryz.func4 #[.agg #[.int .i64 a0_0, .slice A0_1 l0_1.length c0_1]] ?_; (with_reducible refine (impl_Solutions.calls k a0_0 _ _ l0_1 t489 t492 _ ?_ ?_ ?_ A5.out).mono ?_); exact Dr.mm HMM; exact cb HR0_1; exact HC0_1.out; rintro e w26 ⟨v490, rfl, ho0, hb⟩; refine ⟨_, rfl, ?_⟩; have HO491 := Aside0.mk (Kd.R_lower ho0 (below_size bw)); replace BK488 := nk BK488 hb; replace HB := bs hb; (try clear hb); (try clear ho0); have hz27 := z2 BK488) | ((with_reducible refine gc 5 ?_); refine gl (some 71) Tryz.func5 #[.agg #[.int .i64 a0_0, .slice A0_1 l0_1.length c0_1]] ?_; (with_reducible refine (spec_Solutions.calls k a0_0 _ _ l0_1 t493 t496 _ ?_ ?_ A6.out).mono ?_); exact cb HR0_1; exact HC0_1.out; rintro e w28 ⟨v494, rfl, ho0, hb⟩; refine ⟨_, rfl, ?_⟩; have HO495 := Aside0.mk (Kd.R_lower (Kd.R_new' ho0 (Kd.R_lt (pr HO491))) (below_size bw)); replace HO491 := re HO491 ho0 hb; replace BK488 := nk BK488 hb; replace HB := bs hb; (try clear hb); (try clear ho0); have hz29 := z2 BK488) | ((with_reducible refine gc 6 ?_); refine gl (some 76) Tryz.func6 #[.agg #[.int .i64 a0_0, .slice A0_1 l0_1.length c0_1]] ?_; (with_reducible refine (impl_CountSolutions.calls k a0_0 _ _ l0_1 t497 t498 _ ?_ ?_ ?_ A7.out).mono ?_); exact Dr.mm HMM; exact cb HR0_1; exact HC0_1.out; rintro e w30 ⟨rfl, hb⟩; refine ⟨_, rfl, ?_⟩; replace HO491 := rl HO491 hb; replace HO495 := rl HO495 hb; replace BK488 := nk BK488 hb; replace HB := bs hb; (try clear hb); have hz31 := z2 BK488) | ((with_reducible refine gc 7 ?_); refine gl (some 81) Tryz.func7 #[.agg #[.int .i64 a0_0, .slice A0_1 l0_1.length c0_1]] ?_; (with_reducible refine (spec_CountSolutions.calls k a0_0 _ _ l0_1 t499 t500 _ ?_ ?_ A8.out).mono ?_); exact cb HR0_1; exact HC0_1.out; rintro e w32 ⟨rfl, hb⟩; refine ⟨_, rfl, ?_⟩; replace HO491 := rl HO491 hb; replace HO495 := rl HO495 hb; replace BK488 := nk BK488 hb; replace HB := bs hb; (try clear hb); have hz33 := z2 BK488) | ((with_reducible refine gc 8 ?_); refine gl (some 86) Tryz.func8 #[.agg #[.int .i64 a0_0, .slice A0_1 l0_1.length c0_1]] ?_; (with_reducible refine (impl_FirstSolution.calls k a0_0 _ _ l0_1 t501 t502 _ ?_ ?_ ?_ A9.out).mono ?_); exact Dr.mm HMM; exact cb HR0_1; exact HC0_1.out; rintro e w34 ⟨rfl, hb⟩; refine ⟨_, rfl, ?_⟩; replace HO491 := rl HO491 hb; replace HO495 := rl HO495 hb; replace BK488 := nk BK488 hb; replace HB := bs hb; (try clear hb); have hz35 := z2 BK488) | ((with_reducible refine gc 9 ?_); refine gl (some 91) Tryz.func9 #[.agg #[.int .i64 a0_0, .slice A0_1 l0_1.length c0_1]] ?_; (with_reducible refine (spec_FirstSolution.calls k a0_0 _ _ l0_1 t503 t504 _ ?_ ?_ A10.out).mono ?_); exact cb HR0_1; exact HC0_1.out; rintro e w36 ⟨rfl, hb⟩; refine ⟨_, rfl, ?_⟩; replace HO491 := rl HO491 hb; replace HO495 := rl HO495 hb; replace BK488 := nk BK488 hb; replace HB := bs hb; (try clear hb); have hz37 := z2 BK488) | ((with_reducible refine gc 10 ?_); refine gl (some 96) Tryz.func10 #[.agg #[.int .i64 a0_0, .slice A0_1 l0_1.length c0_1]] ?_; (with_reducible refine (impl_SureSigns.calls k a0_0 _ _ l0_1 t505 t506 _ ?_ ?_ ?_ A11.out).mono ?_); exact Dr.mm HMM; exact cb HR0_1; exact HC0_1.out; rintro e w38 ⟨rfl, hb⟩; refine ⟨_, rfl, ?_⟩; replace HO491 := rl HO491 hb; replace HO495 := rl HO495 hb; replace BK488 := nk BK488 hb; replace HB := bs hb; (try clear hb); have hz39 := z2 BK488) | ((with_reducible refine gc 11 ?_); refine gl (some 101) Tryz.func11 #[.agg #[.int .i64 a0_0, .slice A0_1 l0_1.length c0_1]] ?_; (with_reducible refine (spec_SureSigns.calls k a0_0 _ _ l0_1 t507 t508 _ ?_ ?_ A12.out).mono ?_); exact cb HR0_1; exact HC0_1.out; rintro e w40 ⟨rfl, hb⟩; refine ⟨_, rfl, ?_⟩; replace HO491 := rl HO491 hb; replace HO495 := rl HO495 hb; replace BK488 := nk BK488 hb; replace HB := bs hb; (try clear hb); have hz41 := z2 BK488) | ((with_reducible refine gc 12 ?_); refine gl (some 106) Tryz.func12 #[.agg #[.int .i64 a0_0, .slice A0_1 l0_1.length c0_1]] ?_; (with_reducible refine (impl_IsSolved.calls k a0_0 _ _ l0_1 t509 t510 _ ?_ ?_ ?_ A13.out).mono ?_); exact Dr.mm HMM; exact cb HR0_1; exact HC0_1.out; rintro e w42 ⟨rfl, hb⟩; refine ⟨_, rfl, ?_⟩; replace HO491 := rl HO491 hb; replace HO495 := rl HO495 hb; replace BK488 := nk BK488 hb; replace HB := bs hb; (try clear hb); have hz43 := z2 BK488) | ((with_reducible refine gc 13 ?_); refine gl (some 111) Tryz.func13 #[.agg #[.int .i64 a0_0, .slice A0_1 l0_1.length c0_1]] ?_; (with_reducible refine (spec_IsSolved.calls k a0_0 _ _ l0_1 t511 t512 _ ?_ ?_ A14.out).mono ?_); exact cb HR0_1; exact HC0_1.out; rintro e w44 ⟨rfl, hb⟩; refine ⟨_, rfl, ?_⟩; replace HO491 := rl HO491 hb; replace HO495 := rl HO495 hb; replace BK488 := nk BK488 hb; replace HB := bs hb; (try clear hb); have hz45 := z2 BK488) | ((with_reducible refine gc 14 ?_); refine gl (some 116) Tryz.func14 #[.agg #[.int .i64 a0_0, .slice A0_1 l0_1.length c0_1]] ?_; (with_reducible refine (impl_NeedlessClues.calls k a0_0 _ _ l0_1 t513 t516 _ ?_ ?_ ?_ A15.out).mono ?_); exact Dr.mm HMM; exact cb HR0_1; exact HC0_1.out; rintro e w46 ⟨v514, rfl, ho0, hb⟩; refine ⟨_, rfl, ?_⟩; replace HO491 := rl HO491 hb; replace HO495 := rl HO495 hb; have HO515 := Aside0.mk (Kd.R_lower ho0 (below_size bw)); replace BK488 := nk BK488 hb; replace HB := bs hb; (try clear hb); (try clear ho0); have hz47 := z2 BK488) | ((with_reducible refine gc 15 ?_); refine gl (some 121) Tryz.func15 #[.agg #[.int .i64 a0_0, .slice A0_1 l0_1.length c0_1]] ?_; (with_reducible refine (spec_NeedlessClues.calls k a0_0 _ _ l0_1 t517 t520 _ ?_ ?_ A16.out).mono ?_); exact cb HR0_1; exact HC0_1.out; rintro e w48 ⟨v518, rfl, ho0, hb⟩; refine ⟨_, rfl, ?_⟩; replace HO491 := rl HO491 hb; replace HO495 := rl HO495 hb; have HO519 := Aside0.mk (Kd.R_lower (Kd.R_new' ho0 (Kd.R_lt (pr HO515))) (below_size bw)); replace HO515 := re HO515 ho0 hb; replace BK488 := nk BK488 hb; replace HB := bs hb; (try clear hb); (try clear ho0); have hz49 := z2 BK488) | ((with_reducible refine gc 16 ?_); refine gl (some 126) Tryz.func16 #[.agg #[.int .i64 a0_0, .slice A0_1 l0_1.length c0_1]] ?_; (with_reducible refine (impl_LeftByClues.calls k a0_0 _ _ l0_1 t521 t524 _ ?_ ?_ ?_ A17.out).mono ?_); exact Dr.mm HMM; exact cb HR0_1; exact HC0_1.out; rintro e w50 ⟨v522, rfl, ho0, hb⟩; refine ⟨_, rfl, ?_⟩; replace HO491 := rl HO491 hb; replace HO495 := rl HO495 hb; have HO523 := Aside0.mk (Kd.R_lower (Kd.R_new' (Kd.R_new' ho0 (Kd.R_lt (pr HO515))) (Kd.R_lt (pr HO519))) (below_size bw)); replace HO515 := re HO515 ho0 hb; replace HO519 := re HO519 ho0 hb; replace BK488 := nk BK488 hb; replace HB := bs hb; (try clear hb); (try clear ho0); have hz51 := z2 BK488) | ((with_reducible refine gc 17 ?_); refine gl (some 131) Tryz.func17 #[.agg #[.int .i64 a0_0, .slice A0_1 l0_1.length c0_1]] ?_; (with_reducible refine (spec_LeftByClues.calls k a0_0 _ _ l0_1 t525 t528 _ ?_ ?_ A18.out).mono ?_); exact cb HR0_1; exact HC0_1.out; rintro e w52 ⟨v526, rfl, ho0, hb⟩; refine ⟨_, rfl, ?_⟩; replace HO491 := rl HO491 hb; replace HO495 := rl HO495 hb; have HO527 := Aside0.mk (Kd.R_lower (Kd.R_new' (Kd.R_new' (Kd.R_new' ho0 (Kd.R_lt (pr HO515))) (Kd.R_lt (pr HO519))) (Kd.R_lt (pr HO523))) (below_size bw)); replace HO515 := re HO515 ho0 hb; replace HO519 := re HO519 ho0 hb; replace HO523 := re HO523 ho0 hb; replace BK488 := nk BK488 hb; replace HB := bs hb; (try clear hb); (try clear ho0); have hz53 := z2 BK488) | ((with_reducible refine gc 18 ?_); refine gl (some 136) Tryz.func18 #[.agg #[.int .i64 a0_0, .slice A0_1 l0_1.length c0_1]] ?_; (with_reducible refine (impl_BestClue.calls k a0_0 _ _ l0_1 t529 t530 _ ?_ ?_ ?_ A19.out).mono ?_); exact Dr.mm HMM; exact cb HR0_1; exact HC0_1.out; rintro e w54 ⟨rfl, hb⟩; refine ⟨_, rfl, ?_⟩; replace HO491 := rl HO491 hb; replace HO495 := rl HO495 hb; replace HO515 := rl HO515 hb; replace HO519 := rl HO519 hb; replace HO523 := rl HO523 hb; replace HO527 := rl HO527 hb; replace BK488 := nk BK488 hb; replace HB := bs hb; (try clear hb); have hz55 := z2 BK488) | ((with_reducible refine gc 19 ?_); refine gl (some 141) Tryz.func19 #[.agg #[.int .i64 a0_0, .slice A0_1 l0_1.length c0_1]] ?_; (with_reducible refine (spec_BestClue.calls k a0_0 _ _ l0_1 t531 t532 _ ?_ ?_ A20.out).mono ?_); exact cb HR0_1; exact HC0_1.out; rintro e w56 ⟨rfl, hb⟩; refine ⟨_, rfl, ?_⟩; replace HO491 := rl HO491 hb; replace HO495 := rl HO495 hb; replace HO515 := rl HO515 hb; replace HO519 := rl HO519 hb; replace HO523 := rl HO523 hb; replace HO527 := rl HO527 hb; replace BK488 := nk BK488 hb; replace HB := bs hb; (try clear hb); have hz57 := z2 BK488) | ((with_reducible refine gc 20 ?_); refine gl (some 146) Tryz.func20 #[.agg #[.int .i64 a0_0, .slice A0_1 l0_1.length c0_1]] ?_; (with_reducible refine (impl_PuzzleText.calls k a0_0 _ _ l0_1 t533 t534 _ ?_ ?_ A21.out).mono ?_); exact cb HR0_1; exact HC0_1.out; rintro e w58 ⟨rfl, hb⟩; refine ⟨_, rfl, ?_⟩; replace HO491 := rl HO491 hb; replace HO495 := rl HO495 hb; replace HO515 := rl HO515 hb; replace HO519 := rl HO519 hb; replace HO523 := rl HO523 hb; replace HO527 := rl HO527 hb; replace BK488 := nk BK488 hb; replace HB := bs hb; (try clear hb); have hz59 := z2 BK488) | ((with_reducible refine gc 21 ?_); refine gl (some 151) Tryz.func21 #[.agg #[.int .i64 a0_0, .slice A0_1 l0_1.length c0_1]] ?_; (with_reducible refine (spec_PuzzleText.calls k a0_0 _ _ l0_1 t535 t536 _ ?_ ?_ A22.out).mono ?_); exact cb HR0_1; exact HC0_1.out; rintro e w60 ⟨rfl, hb⟩; refine ⟨_, rfl, ?_⟩; replace HO491 := rl HO491 hb; replace HO495 := rl HO495 hb; replace HO515 := rl HO515 hb; replace HO519 := rl HO519 hb; replace HO523 := rl HO523 hb; replace HO527 := rl HO527 hb; replace BK488 := nk BK488 hb; replace HB := bs hb; (try clear hb)))
 (try simp only [Act.put, List.setIfInBounds_toArray, List.set_cons_zero, List.set_cons_succ])
 go_cut [98, 103, 107, 108, 112, 113, 118, 123, 128, 133, 138, 140, 141, 142, 143, 144, 145, 146, 147, 148, 149, 150, 151, 152, 153, 307] from 9999 (fun _ _ _ _ _ _ _ _ _ _ _ _ _ _ _ _ _ _ _ _ _ _ _ _ _ v307 wc => ∃ (kq : Nat) (x307_22 : Bool), v307 = .bool x307_22 ∧ Aside0 (laws_FnRowsGuessedOfAll.j0 kq a1 t489 t492 t497 t501 t502 t505 t509 t513 t521 t529 t533 x307_22 a0_0 l0_1 = some r) ∧ Aside0 (kq ≤ k) ∧ Aside0 (Kd.R Kd.string 9 wc w.heap.size (fun _ => True) v490 t489) ∧ Aside0 (Kd.R (Kd.int .i64) 3 wc w.heap.size (fun k_ => some k_ ≠ (v522 : Value).ownBlock) v514 t513) ∧ Aside0 (Kd.R (Kd.int .i64) 3 wc w.heap.size (fun k_ => some k_ ≠ (v514 : Value).ownBlock) v522 t521) ∧ Aside0 (wc.heap[gb488]? = some (.cells #[.int .i64 a0_0, (.slice A0_1 l0_1.length c0_1)] 24 (0, 0))) ∧ Aside0 (Below w.heap.size w wc))
 case first =>
  rename_i J1_ K1_ hJ1_ hM1_
  exact laws_FnRowsGuessedOfAll.f1 HR0_1 HC0_1 HRT A5 HC23 HO491 HO495 HO515 HO519 HO523 HO527 BK488 HB hJ1_ hM1_
 case rest =>
  clear HC23
  repeat (first|clear c2|clear p2|clear c6|clear c7|clear c8|clear c24|clear c25|clear c65|clear c65b0|clear c65b1|clear c67|clear c67b0|clear c67b1|clear c69|clear c69b0|clear c69b1|clear c79|clear c79b0|clear c79b1|clear c81|clear c81b0|clear c81b1)
  obtain ⟨kq, x307_22, rfl, HA, HJ22, HO_5, HO_25, HO_29, BK488, HB⟩ := hcut
  go_step
  exact laws_FnRowsGuessedOfAll.r1 HR0_1 HC0_1 HRT HMM A5 A9 A13 w24 w26 w28 w30 w32 w34 w36 w38 w40 w42 w44 w46 w48 w50 w52 w54 w56 w58 HO491 HO495 HO515 HO519 HO523 HO527 (by assumption) HA HJ22 HO_5 HO_25 HO_29 BK488 HB
end Go.Proofs.YtfaakdokcldnkaaGreatDoor.PFnRowsGuessedOfAll
