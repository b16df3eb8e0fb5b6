-- Laid by xprint, a program of this session that runs over the kit's print.
import Derived.Test.YtonhhfhlhlifcaaGreatDoorPFnRowsHiddenOfAllx14
namespace Go.Proofs.YtonhhfhlhlifcaaGreatDoor.PFnRowsHiddenOfAll
open Go.RowKit Go.Proofs.YtonhhfhlhlifcaaGreatDoorW.PrintWords Go.Proofs.YtonhhfhlhlifcaaGreatDoorW.PrintLast Go.Proofs.YtonhhfhlhlifcaaGreatDoorW.PrintMore Go.Proofs.YtonhhfhlhlifcaaGreatDoor.Sq
attribute [local go_sem] max2_int min2_int max_two min_two max_three min_three max_four min_four   -- for this text's walks alone
set_option linter.unusedVariables false
set_option linter.unusedSimpArgs false

/-! ### spec_AddClue: function 20 -/
def spec_AddClue.f (k : Nat) (a0_0 : Int) (l0_1 : List (S26)) (a1_0 : Int) (a1_1 : Int) (a1_2 : Int) (a1_3 : Int) : Option (Int × (List (S26)) × Bool) := (spec_pzGood.f k a0_0 l0_1).bind fun t337 => (if t337 = true then ((spec_pzClue.f a0_0 a1_0 a1_1 a1_2 a1_3).bind fun t338 => (if t338 = true then (if (l0_1.length : Int) = 6 then (some (0, ([] : List (S26)), false)) else ((some (([] : List (S26)) : List (S26))).bind fun y339 => (if y339.length + l0_1.length < 4398046511104 then ((some (y339 ++ l0_1 : List (S26))).bind fun y342 => ((some (([(⟨a1_0, a1_1, a1_2, a1_3⟩ : S26)] : List (S26)) : List (S26))).bind fun y345 => (if y342.length + y345.length < 4398046511104 then (some (a0_0, (y342 ++ y345), true)) else (none)))) else (none)))) else (some (0, ([] : List (S26)), false)))) else (some (0, ([] : List (S26)), false)))
theorem spec_AddClue.mono : ∀ a0 a1 a2 a3 a4 a5 k, LeO (spec_AddClue.f k a0 a1 a2 a3 a4 a5) (spec_AddClue.f (k + 1) a0 a1 a2 a3 a4 a5) := by
  intro a0 a1 a2 a3 a4 a5 k
  unfold spec_AddClue.f
  repeat' first
      | (with_reducible exact spec_pzGood.mono _ _ _)
      | (with_reducible exact LeO.refl _)
      | (with_reducible exact LeO.none _)
      | (with_reducible refine LeO.ite ?_ ?_)
      | (with_reducible refine LeO.bind ?_ (fun _ => ?_))
      | exact spec_pzGood.mono _ _ _
      | exact LeO.none _
      | refine LeO.ite ?_ ?_
      | refine LeO.bind ?_ (fun _ => ?_)
def spec_AddClue.T3 : Bool × List (List Nat × List Nat) := (true, [([], []), ([0], [0]), ([], []), ([], []), ([3], [3]), ([2, 4], [2, 4]), ([], []), ([6], [6]), ([5, 7, 5], [5, 7]), ([1, 8], [1, 8]), ([9, 8, 0, 1, 2, 3, 4, 5, 6, 7, 8, 9], [9]), ([10, 0, 1, 2, 3, 4, 5, 6, 7, 8, 9, 10], [])])
def spec_AddClue.B3 : List Nat := [0, 1, 0, 0, 8, 28, 0, 64, 252, 511, 1023, 2047]
theorem spec_AddClue.tab3 : rtab .any (opsOf Tryz.f20 3) = spec_AddClue.T3 := by kernel_rfl
theorem spec_AddClue.bits3 : waitsOk spec_AddClue.T3.2 spec_AddClue.B3 = true := by kernel_rfl
set_option maxHeartbeats 8000000 in
set_option maxRecDepth 100000 in
theorem spec_AddClue.calls (k : Nat) (a0_0 : Int) (A0_1 : Option Addr) (c0_1 : Nat) (l0_1 : List (S26)) (a1_0 : Int) (a1_1 : Int) (a1_2 : Int) (a1_3 : Int) (r1 : Int) (r2 : List (S26)) (r3 : Bool) (w : World) (hr0_1 : Kd.C k26 w A0_1 l0_1.length l0_1) (hc0_1 : l0_1.length ≤ c0_1) (h : spec_AddClue.f k a0_0 l0_1 a1_0 a1_1 a1_2 a1_3 = some (r1, r2, r3)) :
  Calls Tryz.prog 20 #[.agg #[.int .i64 a0_0, .slice A0_1 l0_1.length c0_1], .agg #[.int .i64 a1_0, .int .i64 a1_1, .int .i64 a1_2, .int .i64 a1_3]] w fun e w' => ∃ v1_ : Value, e = .returned (.tuple #[.agg #[.int .i64 r1, v1_], .bool r3]) ∧ Kd.R k26 26 w' w.heap.size (fun _ => True) v1_ r2 ∧ Below w.heap.size w w' := by
 have hu24 := Tryz.underlying24
 have hu26 := Tryz.underlying26
 have HR0_1 := Aside0.mk hr0_1
 have HC0_1 := Aside0.mk hc0_1
 clear hr0_1 hc0_1
 have HB := Aside0.mk (Below.refl w.heap.size w)
 unfold spec_AddClue.f at h
 have H := h
 clear h
 obtain ⟨t337, A3, H⟩ := ob H
 (try dsimp only at H)
 go_enter Tryz.func20, Tryz.ntmps20
 go_wp2_with (first | ((with_reducible refine gd 2 ?_); (try (refine gate_guard (by rfl) ?_; dsimp only)); refine bx 2 24 #[.int .i64 a0_0, .slice A0_1 l0_1.length c0_1] ?_; intro gb334 hg w8 hbox hb; have BK334 := hbox; have GW334 := gs hg; have GE334 := gs hg; replace HB := bs hb; clear hb hbox hg) | ((with_reducible refine gd 3 ?_); (try (refine gate_guard (by rfl) ?_; dsimp only)); refine bx 3 26 #[.int .i64 a1_0, .int .i64 a1_1, .int .i64 a1_2, .int .i64 a1_3] ?_; intro gb335 hg w9 hbox hb; have BK335 := hbox; have GW335 := gs hg; have GE335 := gs hg; replace HB := bs hb; have ⟨NB334_335, NB335_334⟩ := nn BK334 hg; replace BK334 := nk BK334 hb; clear hb hbox hg; refine halt ?_))
 by_cases c4 : t337 = true
 ·subst c4
  rw [if_pos rfl] at H
  obtain ⟨t338, A5, H⟩ := ob H
  (try dsimp only at H)
  refine Aside0.mk ?_
  try go_wp2_with (((with_reducible refine gd 4 ?_); (try (refine gate_guard (by rfl) ?_; dsimp only)); refine bx 4 24 #[.int .i64 0, .slice none 0 0] ?_; intro gb336 hg w10 hbox hb; have BK336 := hbox; have GW336 := gs hg; have GE336 := gs hg; replace HB := bs hb; have ⟨NB334_336, NB336_334⟩ := nn BK334 hg; replace BK334 := nk BK334 hb; have ⟨NB335_336, NB336_335⟩ := nn BK335 hg; replace BK335 := nk BK335 hb; clear hb hbox hg; have hnb11 := nb NB334_335; have hnb12 := nb NB334_336; obtain ⟨hcz13_0, hcz13_1, hfz13_0, hfz13_1⟩ := z2 BK334; refine halt ?_))
  by_cases c6 : t338 = true
  ·subst c6
   rw [if_pos rfl] at H
   refine Aside0.mk ?_
   try go_wp2_with (((with_reducible refine gc 47 ?_); refine gl (some 7) Tryz.func47 #[.agg #[.int .i64 a0_0, .slice A0_1 l0_1.length c0_1]] ?_; (with_reducible refine (spec_pzGood.calls k a0_0 _ _ l0_1 true _ ?_ ?_ A3.out).mono ?_); exact cb HR0_1; exact HC0_1.out; rintro e w14 ⟨rfl, hb⟩; refine ⟨_, rfl, ?_⟩; replace BK334 := nk BK334 hb; replace BK335 := nk BK335 hb; replace BK336 := nk BK336 hb; replace HB := bs hb; (try clear hb); have hz15 := z2 BK334; have hnb16 := nb NB335_336; have hz17 := z4 BK335; refine halt ?_))
   by_cases c7 : (l0_1.length : Int) = 6
   ·rw [if_pos c7] at H
    have c7b0 : ((l0_1.length : Int) == 6) = true := beq_iff_eq.mpr c7
    have c7b1 : ((l0_1.length : Int) != 6) = false := bne_eq_false_iff_eq.mpr c7
    clear c7
    simp only [Option.some.injEq, Prod.mk.injEq] at H
    obtain ⟨rfl, rfl, rfl⟩ := H
    refine Aside0.mk ?_
    try go_wp2_with ((go_at_call 50; (with_reducible refine (spec_pzClue.calls a0_0 a1_0 a1_1 a1_2 a1_3 true _ A5.out).mono ?_); rintro e w18 ⟨rfl, hb⟩; replace BK334 := nk BK334 hb; replace BK336 := nk BK336 hb; replace HB := bs hb; (try clear hb); have hz19 := z2 BK334; have hz20 := z2 BK336))
    refine bodyPost_ret (results_ct rfl _ _ gb336 24 #[.int .i64 0, .slice none 0 0] (0, 0) _ rfl (pz BK336) Tryz.underlying24 rfl (by kernel_rfl)) rfl ?_
    exact ⟨_, rs, by first | exact Kd.R_nil _ _ _ _ _ | exact Kd.N_nil _ _ _ _ _ | exact Kd.V_nil _ _ _ _ _ | exact Kd.Q_nil _ _ _ _ _ | exact Kd.S_nil _ _ _ _ _, bw⟩
   rw [if_neg c7] at H
   have c7b0 : ((l0_1.length : Int) == 6) = false := beq_eq_false_iff_ne.mpr c7
   have c7b1 : ((l0_1.length : Int) != 6) = true := bne_iff_ne.mpr c7
   obtain ⟨y339, hy339⟩ : ∃ y_ : List (S26), y_ = (([] : List (S26))) := ⟨_, rfl⟩
   replace H : (if y339.length + l0_1.length < 4398046511104 then ((some (y339 ++ l0_1 : List (S26))).bind fun y342 => ((some (([(⟨a1_0, a1_1, a1_2, a1_3⟩ : S26)] : List (S26)) : List (S26))).bind fun y345 => (if y342.length + y345.length < 4398046511104 then (some (a0_0, (y342 ++ y345), true)) else (none)))) else (none)) = some (r1, r2, r3) := by first | (rw [hy339]; with_reducible exact H) | (have H2_ := (Option.bind_some _ _).symm.trans H; rw [hy339]; with_reducible exact H2_) | (have H2_ := (Option.bind_some _ _).symm.trans H; with_reducible exact H2_) | with_reducible exact H | (rw [hy339]; exact H) | exact H
   have Ny339 := Aside0.mk hy339
   clear hy339
   obtain ⟨c21, H⟩ := oi H
   have LMc21 := Aside0.mk c21
   clear c21
   obtain ⟨y342, hy342⟩ : ∃ y_ : List (S26), y_ = (y339 ++ l0_1) := ⟨_, rfl⟩
   replace H : ((some (([(⟨a1_0, a1_1, a1_2, a1_3⟩ : S26)] : List (S26)) : List (S26))).bind fun y345 => (if y342.length + y345.length < 4398046511104 then (some (a0_0, (y342 ++ y345), true)) else (none))) = some (r1, r2, r3) := by first | (rw [hy342]; with_reducible exact H) | (have H2_ := (Option.bind_some _ _).symm.trans H; rw [hy342]; with_reducible exact H2_) | (have H2_ := (Option.bind_some _ _).symm.trans H; with_reducible exact H2_) | with_reducible exact H | (rw [hy342]; exact H) | exact H
   have Ny342 := Aside0.mk hy342
   clear hy342
   obtain ⟨y345, hy345⟩ : ∃ y_ : List (S26), y_ = (([(⟨a1_0, a1_1, a1_2, a1_3⟩ : S26)] : List (S26))) := ⟨_, rfl⟩
   replace H : (if y342.length + y345.length < 4398046511104 then (some (a0_0, (y342 ++ y345), true)) else (none)) = some (r1, r2, r3) := by first | (rw [hy345]; with_reducible exact H) | (have H2_ := (Option.bind_some _ _).symm.trans H; rw [hy345]; with_reducible exact H2_) | (have H2_ := (Option.bind_some _ _).symm.trans H; with_reducible exact H2_) | with_reducible exact H | (rw [hy345]; exact H) | exact H
   have Ny345 := Aside0.mk hy345
   clear hy345
   obtain ⟨c22, H⟩ := oi H
   have LMc22 := Aside0.mk c22
   clear c22
   obtain ⟨y348, hy348⟩ : ∃ y_ : List (S26), y_ = (y342 ++ y345) := ⟨_, rfl⟩
   replace H : (some (a0_0, y348, true)) = some (r1, r2, r3) := by first | (rw [hy348]; with_reducible exact H) | (have H2_ := (Option.bind_some _ _).symm.trans H; rw [hy348]; with_reducible exact H2_) | (have H2_ := (Option.bind_some _ _).symm.trans H; with_reducible exact H2_) | with_reducible exact H | (rw [hy348]; exact H) | exact H
   have Ny348 := Aside0.mk hy348
   clear hy348
   simp only [Option.some.injEq, Prod.mk.injEq] at H
   obtain ⟨rfl, rfl, rfl⟩ := H
   refine Aside0.mk ?_
   try go_wp2_with ((go_at_call 50; (with_reducible refine (spec_pzClue.calls a0_0 a1_0 a1_1 a1_2 a1_3 true _ A5.out).mono ?_); rintro e w33 ⟨rfl, hb⟩; replace BK334 := nk BK334 hb; replace BK335 := nk BK335 hb; replace BK336 := nk BK336 hb; replace HB := bs hb; (try clear hb); have hz34 := z2 BK334))
   replace BK334 := Aside0.mk (blk_drew BK334.out)
   replace BK335 := Aside0.mk (blk_drew BK335.out)
   replace BK336 := Aside0.mk (blk_drew BK336.out)
   replace HB := Aside0.mk (below_drew1 HB.out)
   refine start_ (n := 12) (S := fun w' => w'.cell? ⟨gb334, 0, none⟩ = some (.int .i64 a0_0) ∧ w'.cell? ⟨gb334, 1, none⟩ = some (.slice A0_1 l0_1.length c0_1) ∧ w'.cell? ⟨gb335, 0, none⟩ = some (.int .i64 a1_0) ∧ w'.cell? ⟨gb335, 1, none⟩ = some (.int .i64 a1_1) ∧ w'.cell? ⟨gb335, 2, none⟩ = some (.int .i64 a1_2) ∧ w'.cell? ⟨gb335, 3, none⟩ = some (.int .i64 a1_3)) (ds := []) (tb 12 0) (by kernel_rfl) rfl rfl ⟨ec BK334, ec BK334, ec BK335, ec BK335, ec BK335, ec BK335⟩ (fun hHeld => ?_); refine with_tabW spec_AddClue.tab3 spec_AddClue.bits3 (fun HT_ HW_ => ?_)
   generalize w33.drew = w35 at BK334 BK335 BK336 HB hHeld ⊢
   refine pu 0 (some 23) (tb 12 1) ?_
   refine pu 3 (some 26) (tb 12 9) ?_
   refine tk 1 (some 24) (tb 12 11) hHeld ?_
   refine tk 4 (some 27) (tb 12 27) hHeld ?_
   refine tk 6 (some 29) (tb 12 91) hHeld ?_
   refine join_ (σ := Value × Value × Value) 4 (tb 12 255) (fun s_ => [(25, s_.1), (28, s_.2.1), (30, s_.2.2)]) (fun s_ w' => (w'.cell? ⟨gb334, 0, none⟩ = some (.int .i64 a0_0) ∧ w'.cell? ⟨gb334, 1, none⟩ = some (.slice A0_1 l0_1.length c0_1) ∧ w'.cell? ⟨gb335, 0, none⟩ = some (.int .i64 a1_0) ∧ w'.cell? ⟨gb335, 1, none⟩ = some (.int .i64 a1_1) ∧ w'.cell? ⟨gb335, 2, none⟩ = some (.int .i64 a1_2) ∧ w'.cell? ⟨gb335, 3, none⟩ = some (.int .i64 a1_3)) ∧ (Kd.R k26 26 w' w.heap.size (fun k_ => some k_ ≠ (s_.2.2 : Value).ownBlock ∧ k_ ≠ gb335) s_.2.1 y342) ∧ (Kd.R k26 26 w' w.heap.size (fun k_ => some k_ ≠ (s_.2.1 : Value).ownBlock ∧ k_ ≠ gb335) s_.2.2 y345) ∧ (w'.heap[gb334]? = some (.cells #[.int .i64 a0_0, .slice A0_1 l0_1.length c0_1] 24 (0, 0))) ∧ (w'.heap[gb335]? = some (.cells #[.int .i64 a1_0, .int .i64 a1_1, .int .i64 a1_2, .int .i64 a1_3] 26 (0, 0))) ∧ (w'.heap[gb336]? = some (.cells #[.int .i64 0, .slice none 0 0] 24 (0, 0))) ∧ (Below w.heap.size w w')) ?_ ?_
   rotate_left
   ·intro hCont
    refine two_ (i := 2) (j := 7) (Ni := some 25) (Nj := some 30) (tb 12 95) (tb 12 219) rfl rfl rfl rfl (two_of HT_.out (by kernel_rfl)) (by decide) (by decide) (fun K hK => ?_) (fun K hK => ?_)
    ·skip
     refine Kd.R_lit_step k26 _ 26 ?hg (N := 25) ?hd (xs := ([] : List (S26))) (inner := []) (ok := fun _ => True) (okp := fun _ => True) ?hr ?hp (fun _ hk => hk) trivial (Below.refl _ _) (Nat.le_refl _) (by simp) ?_; (case hd => rfl); (case hg => rfl); (case hr => first | (go_simp; done) | (go_simp; rfl)); (case hp => exact (Reps.none _ _))
     intro v340 w36 ho37 hb hg_ hnew_
     clear hg_ hnew_
     (first | rw [← Ny339.out] at ho37 | (simp only [Int.reduceToNat] at ho37; rw [← Ny339.out] at ho37))
     have HO341 := Aside0.mk (Kd.R_lower (Kd.R_newB ho37 (pk BK335)) (below_size bw))
     replace BK334 := nk BK334 hb
     replace BK335 := nk BK335 hb
     replace BK336 := nk BK336 hb
     replace HB := bs hb
     clear hb ho37
     refine hK.out _ _ ⟨ec BK334, ec BK334, ec BK335, ec BK335, ec BK335, ec BK335⟩ (fun hHeld => ?_)
     clear hK K
     refine nm (some 25) ?_
     refine two_ (i := 5) (j := 7) (Ni := some 28) (Nj := some 30) (tb 12 127) (tb 12 223) rfl rfl rfl rfl (two_of HT_.out (by kernel_rfl)) (by decide) (by decide) (fun K hK => ?_) (fun K hK => ?_)
     ·skip
      refine Kd.R_append_rows_step k26 (w0 := w) w.heap.size (by rfl) (.tmp 25) (.tmp 27) 22 26 (.agg #[(.int .i64 0), (.int .i64 0), (.int .i64 0), (.int .i64 0)]) 32 rfl Tryz.underlying22 info26 rfl (by decide) (by omega) v340 y339 l0_1 _ _ _ (fun k_ => k_ ≠ gb335) (fun _ => False) rfl rfl ?aO ?aR (fun _ _ h => h) (fun _ h => h.elim) ?aF ?aB ?aS ?aL ?_
      (case aR => exact cb HR0_1)
      (case aB => exact bw)
      (case aF => exact (fun k_ hk => Kd.freshB (pk BK335) k_ hk))
      (case aO => exact (by (with_reducible repeat (first | apply Kd.R_alloc | apply Kd.R_drewN | apply Kd.R_drew)); exact Kd.R_mono HO341.out (fun _ hk => hk.2)))
      (case aS => exact (below_size bw))
      (case aL => have := LMc21.out; omega)
      intro v343 w38 ho hb hg hat
      rw [← Ny342.out] at ho
      have n0_ := Aside0.mk (blk_grown (pk BK334) hg (Kd.R_ne HO341.out BK334.out (by decide)))
      have n1_ := Aside0.mk (blk_grown (pk BK335) hg (Kd.R_away HO341.out (fun _ hk => hk.2)))
      have n2_ := Aside0.mk (blk_grown (pk BK336) hg (Kd.R_ne HO341.out BK336.out (by decide)))
      have n3_ := Aside0.mk (hb)
      have n4_ := Aside0.mk (ho)
      clear BK334
      clear BK335
      clear BK336
      clear HB
      clear HO341
      have BK334 := n0_
      have BK335 := n1_
      have BK336 := n2_
      have HB := n3_
      have HO344 := n4_
      clear n0_ n1_ n2_ n3_ n4_
      clear ho hb hg hat
      refine hK.out _ _ ⟨ec BK334, ec BK334, ec BK335, ec BK335, ec BK335, ec BK335⟩ (fun hHeld => ?_)
      clear hK K
      refine nm (some 28) ?_
      refine one_ (i := 7) (N := some 30) (tb 12 255) rfl rfl (one_of HT_.out (by kernel_rfl)) (by decide) (fun K hK => ?_)
      refine Kd.R_lit_step k26 _ 26 ?hg (N := 30) ?hd (xs := ([(⟨a1_0, a1_1, a1_2, a1_3⟩ : S26)] : List (S26))) (inner := [.int .i64 a1_0, .int .i64 a1_1, .int .i64 a1_2, .int .i64 a1_3]) (ok := fun _ => True) (okp := fun _ => True) ?hr ?hp (fun _ hk => hk) trivial (Below.refl _ _) (Nat.le_refl _) (by simp) ?_; (case hd => rfl); (case hg => rfl); (case hr => first | (go_simp; done) | (go_simp; rfl)); (case hp => exact (Reps.c4 (show Kd.M k26 _ _ _ (⟨a1_0, a1_1, a1_2, a1_3⟩ : S26) [.int .i64 a1_0, .int .i64 a1_1, .int .i64 a1_2, .int .i64 a1_3] from (k26_mkM _ _ _ (⟨a1_0, a1_1, a1_2, a1_3⟩ : S26) )) (Reps.none _ _)))
      intro v346 w39 ho40 hb hg_ hnew_
      clear hg_ hnew_
      (first | rw [← Ny345.out] at ho40 | (simp only [Int.reduceToNat] at ho40; rw [← Ny345.out] at ho40))
      have HO347 := Aside0.mk (Kd.R_lower (Kd.R_newB (Kd.R_new' ho40 (Kd.R_lt (pr HO344))) (pk BK335)) (below_size bw))
      replace HO344 := re HO344 ho40 hb
      replace BK334 := nk BK334 hb
      replace BK335 := nk BK335 hb
      replace BK336 := nk BK336 hb
      replace HB := bs hb
      clear hb ho40
      refine hK.out _ _ ⟨ec BK334, ec BK334, ec BK335, ec BK335, ec BK335, ec BK335⟩ (fun hHeld => ?_)
      clear hK K
      refine nm (some 30) ?_
      exact norm_ (by simp only [putAll, Act.put, List.setIfInBounds_toArray, List.set_cons_zero, List.set_cons_succ]) (hCont (v340, v343, v346) _ ⟨hHeld, (by (with_reducible repeat (first | apply Kd.R_alloc | apply Kd.R_drewN | apply Kd.R_drew)); exact Kd.R_mono HO344.out (fun _ hk => ⟨hk.2, hk.1⟩)), (by (with_reducible repeat (first | apply Kd.R_alloc | apply Kd.R_drewN | apply Kd.R_drew)); exact Kd.R_mono HO347.out (fun _ hk => ⟨hk.1.2, hk.2⟩)), (pk BK334), (pk BK335), (pk BK336), bw⟩)
     ·skip
      refine Kd.R_lit_step k26 _ 26 ?hg (N := 30) ?hd (xs := ([(⟨a1_0, a1_1, a1_2, a1_3⟩ : S26)] : List (S26))) (inner := [.int .i64 a1_0, .int .i64 a1_1, .int .i64 a1_2, .int .i64 a1_3]) (ok := fun _ => True) (okp := fun _ => True) ?hr ?hp (fun _ hk => hk) trivial (Below.refl _ _) (Nat.le_refl _) (by simp) ?_; (case hd => rfl); (case hg => rfl); (case hr => first | (go_simp; done) | (go_simp; rfl)); (case hp => exact (Reps.c4 (show Kd.M k26 _ _ _ (⟨a1_0, a1_1, a1_2, a1_3⟩ : S26) [.int .i64 a1_0, .int .i64 a1_1, .int .i64 a1_2, .int .i64 a1_3] from (k26_mkM _ _ _ (⟨a1_0, a1_1, a1_2, a1_3⟩ : S26) )) (Reps.none _ _)))
      intro v346 w38 ho39 hb hg_ hnew_
      clear hg_ hnew_
      (first | rw [← Ny345.out] at ho39 | (simp only [Int.reduceToNat] at ho39; rw [← Ny345.out] at ho39))
      have HO347 := Aside0.mk (Kd.R_lower (Kd.R_newB (Kd.R_new' ho39 (Kd.R_lt (pr HO341))) (pk BK335)) (below_size bw))
      replace HO341 := re HO341 ho39 hb
      replace BK334 := nk BK334 hb
      replace BK335 := nk BK335 hb
      replace BK336 := nk BK336 hb
      replace HB := bs hb
      clear hb ho39
      refine hK.out _ _ ⟨ec BK334, ec BK334, ec BK335, ec BK335, ec BK335, ec BK335⟩ (fun hHeld => ?_)
      clear hK K
      refine nm (some 30) ?_
      refine one_ (i := 5) (N := some 28) (tb 12 255) rfl rfl (one_of HT_.out (by kernel_rfl)) (by decide) (fun K hK => ?_)
      refine Kd.R_append_rows_step k26 (w0 := w) w.heap.size (by rfl) (.tmp 25) (.tmp 27) 22 26 (.agg #[(.int .i64 0), (.int .i64 0), (.int .i64 0), (.int .i64 0)]) 32 rfl Tryz.underlying22 info26 rfl (by decide) (by omega) v340 y339 l0_1 _ _ _ (fun k_ => some k_ ≠ (v346 : Value).ownBlock ∧ k_ ≠ gb335) (fun _ => False) rfl rfl ?aO ?aR (fun _ _ h => h) (fun _ h => h.elim) ?aF ?aB ?aS ?aL ?_
      (case aR => exact cb HR0_1)
      (case aB => exact bw)
      (case aF => exact (fun k_ hk => ⟨Kd.fresh' (Kd.R_lt (pr HO347)) k_ hk, Kd.freshB (pk BK335) k_ hk⟩))
      (case aO => exact (by (with_reducible repeat (first | apply Kd.R_alloc | apply Kd.R_drewN | apply Kd.R_drew)); exact Kd.R_mono HO341.out (fun _ hk => ⟨hk.2, hk.1.2⟩)))
      (case aS => exact (below_size bw))
      (case aL => have := LMc21.out; omega)
      intro v343 w40 ho hb hg hat
      rw [← Ny342.out] at ho
      have n0_ := Aside0.mk (blk_grown (pk BK334) hg (Kd.R_ne HO341.out BK334.out (by decide)))
      have n1_ := Aside0.mk (blk_grown (pk BK335) hg (Kd.R_away HO341.out (fun _ hk => hk.1.2)))
      have n2_ := Aside0.mk (blk_grown (pk BK336) hg (Kd.R_ne HO341.out BK336.out (by decide)))
      have n3_ := Aside0.mk (Kd.R_after (ok := (fun k_ => k_ ≠ gb335)) (by (with_reducible repeat (first | apply Kd.R_alloc | apply Kd.R_drewN | apply Kd.R_drew)); exact Kd.R_mono HO347.out (fun _ hk => ⟨hk.2, hk.1.2⟩)) hg hat)
      have n4_ := Aside0.mk (hb)
      have n5_ := Aside0.mk (ho)
      clear BK334
      clear BK335
      clear BK336
      clear HO347
      clear HB
      clear HO341
      have BK334 := n0_
      have BK335 := n1_
      have BK336 := n2_
      have HO347 := n3_
      have HB := n4_
      have HO344 := n5_
      clear n0_ n1_ n2_ n3_ n4_ n5_
      clear ho hb hg hat
      refine hK.out _ _ ⟨ec BK334, ec BK334, ec BK335, ec BK335, ec BK335, ec BK335⟩ (fun hHeld => ?_)
      clear hK K
      refine nm (some 28) ?_
      exact norm_ (by simp only [putAll, Act.put, List.setIfInBounds_toArray, List.set_cons_zero, List.set_cons_succ]) (hCont (v340, v343, v346) _ ⟨hHeld, (pr HO344), (by (with_reducible repeat (first | apply Kd.R_alloc | apply Kd.R_drewN | apply Kd.R_drew)); exact Kd.R_mono HO347.out (fun _ hk => ⟨hk.2, hk.1⟩)), (pk BK334), (pk BK335), (pk BK336), bw⟩)
    ·skip
     refine Kd.R_lit_step k26 _ 26 ?hg (N := 30) ?hd (xs := ([(⟨a1_0, a1_1, a1_2, a1_3⟩ : S26)] : List (S26))) (inner := [.int .i64 a1_0, .int .i64 a1_1, .int .i64 a1_2, .int .i64 a1_3]) (ok := fun _ => True) (okp := fun _ => True) ?hr ?hp (fun _ hk => hk) trivial (Below.refl _ _) (Nat.le_refl _) (by simp) ?_; (case hd => rfl); (case hg => rfl); (case hr => first | (go_simp; done) | (go_simp; rfl)); (case hp => exact (Reps.c4 (show Kd.M k26 _ _ _ (⟨a1_0, a1_1, a1_2, a1_3⟩ : S26) [.int .i64 a1_0, .int .i64 a1_1, .int .i64 a1_2, .int .i64 a1_3] from (k26_mkM _ _ _ (⟨a1_0, a1_1, a1_2, a1_3⟩ : S26) )) (Reps.none _ _)))
     intro v346 w36 ho37 hb hg_ hnew_
     clear hg_ hnew_
     (first | rw [← Ny345.out] at ho37 | (simp only [Int.reduceToNat] at ho37; rw [← Ny345.out] at ho37))
     have HO347 := Aside0.mk (Kd.R_lower (Kd.R_newB ho37 (pk BK335)) (below_size bw))
     replace BK334 := nk BK334 hb
     replace BK335 := nk BK335 hb
     replace BK336 := nk BK336 hb
     replace HB := bs hb
     clear hb ho37
     refine hK.out _ _ ⟨ec BK334, ec BK334, ec BK335, ec BK335, ec BK335, ec BK335⟩ (fun hHeld => ?_)
     clear hK K
     refine nm (some 30) ?_
     refine one_ (i := 2) (N := some 25) (tb 12 223) rfl rfl (one_of HT_.out (by kernel_rfl)) (by decide) (fun K hK => ?_)
     refine Kd.R_lit_step k26 _ 26 ?hg (N := 25) ?hd (xs := ([] : List (S26))) (inner := []) (ok := fun _ => True) (okp := fun _ => True) ?hr ?hp (fun _ hk => hk) trivial (Below.refl _ _) (Nat.le_refl _) (by simp) ?_; (case hd => rfl); (case hg => rfl); (case hr => first | (go_simp; done) | (go_simp; rfl)); (case hp => exact (Reps.none _ _))
     intro v340 w38 ho39 hb hg_ hnew_
     clear hg_ hnew_
     (first | rw [← Ny339.out] at ho39 | (simp only [Int.reduceToNat] at ho39; rw [← Ny339.out] at ho39))
     have HO341 := Aside0.mk (Kd.R_lower (Kd.R_newB (Kd.R_new' ho39 (Kd.R_lt (pr HO347))) (pk BK335)) (below_size bw))
     replace HO347 := re HO347 ho39 hb
     replace BK334 := nk BK334 hb
     replace BK335 := nk BK335 hb
     replace BK336 := nk BK336 hb
     replace HB := bs hb
     clear hb ho39
     refine hK.out _ _ ⟨ec BK334, ec BK334, ec BK335, ec BK335, ec BK335, ec BK335⟩ (fun hHeld => ?_)
     clear hK K
     refine nm (some 25) ?_
     refine one_ (i := 5) (N := some 28) (tb 12 255) rfl rfl (one_of HT_.out (by kernel_rfl)) (by decide) (fun K hK => ?_)
     refine Kd.R_append_rows_step k26 (w0 := w) w.heap.size (by rfl) (.tmp 25) (.tmp 27) 22 26 (.agg #[(.int .i64 0), (.int .i64 0), (.int .i64 0), (.int .i64 0)]) 32 rfl Tryz.underlying22 info26 rfl (by decide) (by omega) v340 y339 l0_1 _ _ _ (fun k_ => some k_ ≠ (v346 : Value).ownBlock ∧ k_ ≠ gb335) (fun _ => False) rfl rfl ?aO ?aR (fun _ _ h => h) (fun _ h => h.elim) ?aF ?aB ?aS ?aL ?_
     (case aR => exact cb HR0_1)
     (case aB => exact bw)
     (case aF => exact (fun k_ hk => ⟨Kd.fresh' (Kd.R_lt (pr HO347)) k_ hk, Kd.freshB (pk BK335) k_ hk⟩))
     (case aO => exact (by (with_reducible repeat (first | apply Kd.R_alloc | apply Kd.R_drewN | apply Kd.R_drew)); exact Kd.R_mono HO341.out (fun _ hk => ⟨hk.1.2, hk.2⟩)))
     (case aS => exact (below_size bw))
     (case aL => have := LMc21.out; omega)
     intro v343 w40 ho hb hg hat
     rw [← Ny342.out] at ho
     have n0_ := Aside0.mk (blk_grown (pk BK334) hg (Kd.R_ne HO341.out BK334.out (by decide)))
     have n1_ := Aside0.mk (blk_grown (pk BK335) hg (Kd.R_away HO341.out (fun _ hk => hk.2)))
     have n2_ := Aside0.mk (blk_grown (pk BK336) hg (Kd.R_ne HO341.out BK336.out (by decide)))
     have n3_ := Aside0.mk (Kd.R_after (ok := (fun k_ => k_ ≠ gb335)) (by (with_reducible repeat (first | apply Kd.R_alloc | apply Kd.R_drewN | apply Kd.R_drew)); exact Kd.R_mono HO347.out (fun _ hk => ⟨hk.1.2, hk.2⟩)) hg hat)
     have n4_ := Aside0.mk (hb)
     have n5_ := Aside0.mk (ho)
     clear BK334
     clear BK335
     clear BK336
     clear HO347
     clear HB
     clear HO341
     have BK334 := n0_
     have BK335 := n1_
     have BK336 := n2_
     have HO347 := n3_
     have HB := n4_
     have HO344 := n5_
     clear n0_ n1_ n2_ n3_ n4_ n5_
     clear ho hb hg hat
     refine hK.out _ _ ⟨ec BK334, ec BK334, ec BK335, ec BK335, ec BK335, ec BK335⟩ (fun hHeld => ?_)
     clear hK K
     refine nm (some 28) ?_
     exact norm_ (by simp only [putAll, Act.put, List.setIfInBounds_toArray, List.set_cons_zero, List.set_cons_succ]) (hCont (v340, v343, v346) _ ⟨hHeld, (pr HO344), (by (with_reducible repeat (first | apply Kd.R_alloc | apply Kd.R_drewN | apply Kd.R_drew)); exact Kd.R_mono HO347.out (fun _ hk => ⟨hk.2, hk.1⟩)), (pk BK334), (pk BK335), (pk BK336), bw⟩)
   rintro ⟨v340, v343, v346⟩ w41 ⟨hS_, h0_, h1_, h2_, h3_, h4_, h5_⟩
   have n0_ : Aside0 (Kd.R k26 26 w41 w.heap.size (fun k_ => some k_ ≠ (v346 : Value).ownBlock ∧ k_ ≠ gb335) v343 y342) := ⟨h0_⟩
   have n1_ : Aside0 (Kd.R k26 26 w41 w.heap.size (fun k_ => some k_ ≠ (v343 : Value).ownBlock ∧ k_ ≠ gb335) v346 y345) := ⟨h1_⟩
   have n2_ : Aside0 (w41.heap[gb334]? = some (.cells #[.int .i64 a0_0, .slice A0_1 l0_1.length c0_1] 24 (0, 0))) := ⟨h2_⟩
   have n3_ : Aside0 (w41.heap[gb335]? = some (.cells #[.int .i64 a1_0, .int .i64 a1_1, .int .i64 a1_2, .int .i64 a1_3] 26 (0, 0))) := ⟨h3_⟩
   have n4_ : Aside0 (w41.heap[gb336]? = some (.cells #[.int .i64 0, .slice none 0 0] 24 (0, 0))) := ⟨h4_⟩
   have n5_ : Aside0 (Below w.heap.size w w41) := ⟨h5_⟩
   clear BK334
   clear BK335
   clear BK336
   clear HB
   clear h0_ h1_ h2_ h3_ h4_ h5_
   have HO344 := n0_
   have HO347 := n1_
   have BK334 := n2_
   have BK335 := n3_
   have BK336 := n4_
   have HB := n5_
   clear n0_ n1_ n2_ n3_ n4_ n5_
   have hHeld : w41.cell? ⟨gb334, 0, none⟩ = some (.int .i64 a0_0) ∧ w41.cell? ⟨gb334, 1, none⟩ = some (.slice A0_1 l0_1.length c0_1) ∧ w41.cell? ⟨gb335, 0, none⟩ = some (.int .i64 a1_0) ∧ w41.cell? ⟨gb335, 1, none⟩ = some (.int .i64 a1_1) ∧ w41.cell? ⟨gb335, 2, none⟩ = some (.int .i64 a1_2) ∧ w41.cell? ⟨gb335, 3, none⟩ = some (.int .i64 a1_3) := hS_
   obtain ⟨Ao43, co43, eo43⟩ := Kd.R_slice HO347.out
   (first | subst eo43 | (injection eo43 with f1_ f2_ f3_; have f4_ := f1_.symm; have f5_ := f3_.symm; clear f1_ f2_ f3_; subst f4_; subst f5_))
   refine norm_ (a' := ?_) ?_ ?_
   rotate_left
   ·simp only [putAll, Act.put, List.setIfInBounds_toArray, List.set_cons_zero, List.set_cons_succ]
    rfl
   refine one_ (i := 8) (N := some 31) (tb 12 511) rfl rfl (one_of HT_.out (by kernel_rfl)) (by decide) (fun K hK => ?_)
   refine Kd.R_append_rows_step k26 (w0 := w) w.heap.size (by rfl) (.tmp 28) (.tmp 30) 22 26 (.agg #[(.int .i64 0), (.int .i64 0), (.int .i64 0), (.int .i64 0)]) 32 rfl Tryz.underlying22 info26 rfl (by decide) (by omega) v343 y342 y345 _ _ _ (fun k_ => some k_ ≠ (.slice Ao43 y345.length co43 : Value).ownBlock ∧ k_ ≠ gb335) (fun _ => False) rfl rfl ?aO ?aR (fun _ _ h => h) (fun _ h => h.elim) ?aF ?aB ?aS ?aL ?_
   (case aR => exact rr HO347)
   (case aB => exact bw)
   (case aF => exact (fun k_ hk => ⟨Kd.fresh' (Kd.R_lt (pr HO347)) k_ hk, Kd.freshB (pk BK335) k_ hk⟩))
   (case aO => exact (pr HO344))
   (case aS => exact (below_size bw))
   (case aL => have := LMc22.out; omega)
   intro v349 w42 ho hb hg hat
   rw [← Ny348.out] at ho
   have n0_ := Aside0.mk (blk_grown (pk BK334) hg (Kd.R_ne HO344.out BK334.out (by decide)))
   have n1_ := Aside0.mk (blk_grown (pk BK335) hg (Kd.R_away HO344.out (fun _ hk => hk.2)))
   have n2_ := Aside0.mk (blk_grown (pk BK336) hg (Kd.R_ne HO344.out BK336.out (by decide)))
   have n3_ := Aside0.mk (Kd.R_after (ok := (fun k_ => k_ ≠ gb335)) (by (with_reducible repeat (first | apply Kd.R_alloc | apply Kd.R_drewN | apply Kd.R_drew)); exact Kd.R_mono HO347.out (fun _ hk => ⟨hk.2, hk.1⟩)) hg hat)
   have n4_ := Aside0.mk (hb)
   have n5_ := Aside0.mk (ho)
   clear BK334
   clear BK335
   clear BK336
   clear HO347
   clear HB
   clear HO344
   have BK334 := n0_
   have BK335 := n1_
   have BK336 := n2_
   have HO347 := n3_
   have HB := n4_
   have HO350 := n5_
   clear n0_ n1_ n2_ n3_ n4_ n5_
   clear ho hb hg hat
   obtain ⟨Ao44, co44, eo44⟩ := Kd.R_slice HO350.out
   (first | subst eo44 | (injection eo44 with f1_ f2_ f3_; have f4_ := f1_.symm; have f5_ := f3_.symm; clear f1_ f2_ f3_; subst f4_; subst f5_))
   refine hK.out _ _ ⟨ec BK334, ec BK334, ec BK335, ec BK335, ec BK335, ec BK335⟩ (fun hHeld => ?_)
   clear hK K
   refine nm (some 31) ?_
   refine pu 9 (some 32) (tb 12 1023) ?_
   refine one_ (i := 10) (N := none) (tb 12 2047) rfl rfl (one_of HT_.out (by kernel_rfl)) (by decide) (fun K hK => ?_)
   have hs45 : w42.cell? ⟨gb336, 0, none⟩ = some (.int .i64 0) := ec BK336
   have hfs45 := blk_frozen BK336.out 0
   have hns45_0 := NB334_336.out
   have hns45_1 := NB335_336.out
   have hms45_0 := NB336_334.out
   have hms45_1 := NB336_335.out
   have hs46 : w42.cell? ⟨gb336, 1, none⟩ = some (.slice none 0 0) := ec BK336
   have hfs46 := blk_frozen BK336.out 1
   have hns46_0 := NB334_336.out
   have hns46_1 := NB335_336.out
   have hms46_0 := NB336_334.out
   have hms46_1 := NB336_335.out
   refine skip_ (w1 := ?_) (by rfl) rfl ?_ ?_
   rotate_left
   ·go_simp
    rfl
   refine hK.out _ _ ⟨((cell_far (p := ⟨gb336, _, none⟩) NB334_336.out _).trans (((cell_far (p := ⟨gb336, _, none⟩) NB334_336.out _).trans (hHeld.1)))), ((cell_far (p := ⟨gb336, _, none⟩) NB334_336.out _).trans (((cell_far (p := ⟨gb336, _, none⟩) NB334_336.out _).trans (hHeld.2.1)))), ((cell_far (p := ⟨gb336, _, none⟩) NB335_336.out _).trans (((cell_far (p := ⟨gb336, _, none⟩) NB335_336.out _).trans (hHeld.2.2.1)))), ((cell_far (p := ⟨gb336, _, none⟩) NB335_336.out _).trans (((cell_far (p := ⟨gb336, _, none⟩) NB335_336.out _).trans (hHeld.2.2.2.1)))), ((cell_far (p := ⟨gb336, _, none⟩) NB335_336.out _).trans (((cell_far (p := ⟨gb336, _, none⟩) NB335_336.out _).trans (hHeld.2.2.2.2.1)))), ((cell_far (p := ⟨gb336, _, none⟩) NB335_336.out _).trans (((cell_far (p := ⟨gb336, _, none⟩) NB335_336.out _).trans (hHeld.2.2.2.2.2))))⟩ (fun hHeld => ?_)
   clear hK K
   refine pu 11 (some 5) (tb 12 4095) ?_
   refine done_ (done_of HT_.out (by kernel_rfl)) ?_
   try go_wp2
   refine bodyPost_ret (results_ct rfl _ _ gb336 24 #[.int .i64 a0_0, .slice Ao44 y348.length co44] (0, 0) _ rfl (pz BK336) Tryz.underlying24 rfl (by kernel_rfl)) rfl ?_
   exact ⟨_, rs, by (with_reducible repeat (first | apply Kd.R_alloc | apply Kd.R_drewN | apply Kd.R_drew)); exact Kd.R_mono (Kd.R_far (p := ⟨gb336, 1, none⟩) (Kd.R_far (p := ⟨gb336, 0, none⟩) (Kd.R_types HO350.out BK336.out (by decide)) (fun _ hk => hk.2) (.int .i64 a0_0)) (fun _ hk => hk.2) (.slice Ao44 y348.length co44)) (fun _ hk => trivial), bw⟩
  replace c6 := Bool.eq_false_iff.mpr c6
  subst c6
  rw [if_neg (show ¬ (false = true) by decide)] at H
  simp only [Option.some.injEq, Prod.mk.injEq] at H
  obtain ⟨rfl, rfl, rfl⟩ := H
  refine Aside0.mk ?_
  try go_wp2_with (first | ((with_reducible refine gc 47 ?_); refine gl (some 7) Tryz.func47 #[.agg #[.int .i64 a0_0, .slice A0_1 l0_1.length c0_1]] ?_; (with_reducible refine (spec_pzGood.calls k a0_0 _ _ l0_1 true _ ?_ ?_ A3.out).mono ?_); exact cb HR0_1; exact HC0_1.out; rintro e w53 ⟨rfl, hb⟩; refine ⟨_, rfl, ?_⟩; replace BK334 := nk BK334 hb; replace BK335 := nk BK335 hb; replace BK336 := nk BK336 hb; replace HB := bs hb; (try clear hb); have hz54 := z2 BK334; have hnb55 := nb NB335_336; have hz56 := z4 BK335) | (go_at_call 50; (with_reducible refine (spec_pzClue.calls a0_0 a1_0 a1_1 a1_2 a1_3 false _ A5.out).mono ?_); rintro e w57 ⟨rfl, hb⟩; replace BK336 := nk BK336 hb; replace HB := bs hb; (try clear hb); have hz58 := z2 BK336))
  refine bodyPost_ret (results_ct rfl _ _ gb336 24 #[.int .i64 0, .slice none 0 0] (0, 0) _ rfl (pz BK336) Tryz.underlying24 rfl (by kernel_rfl)) rfl ?_
  exact ⟨_, rs, by first | exact Kd.R_nil _ _ _ _ _ | exact Kd.N_nil _ _ _ _ _ | exact Kd.V_nil _ _ _ _ _ | exact Kd.Q_nil _ _ _ _ _ | exact Kd.S_nil _ _ _ _ _, bw⟩
 replace c4 := Bool.eq_false_iff.mpr c4
 subst c4
 rw [if_neg (show ¬ (false = true) by decide)] at H
 simp only [Option.some.injEq, Prod.mk.injEq] at H
 obtain ⟨rfl, rfl, rfl⟩ := H
 refine Aside0.mk ?_
 try go_wp2_with (first | ((with_reducible refine gd 4 ?_); (try (refine gate_guard (by rfl) ?_; dsimp only)); refine bx 4 24 #[.int .i64 0, .slice none 0 0] ?_; intro gb336 hg w61 hbox hb; have BK336 := hbox; have GW336 := gs hg; have GE336 := gs hg; replace HB := bs hb; have ⟨NB334_336, NB336_334⟩ := nn BK334 hg; replace BK334 := nk BK334 hb; clear hb hbox hg; have hnb62 := nb NB334_336; have hz63 := z2 BK334) | ((with_reducible refine gc 47 ?_); refine gl (some 7) Tryz.func47 #[.agg #[.int .i64 a0_0, .slice A0_1 l0_1.length c0_1]] ?_; (with_reducible refine (spec_pzGood.calls k a0_0 _ _ l0_1 false _ ?_ ?_ A3.out).mono ?_); exact cb HR0_1; exact HC0_1.out; rintro e w64 ⟨rfl, hb⟩; refine ⟨_, rfl, ?_⟩; replace BK336 := nk BK336 hb; replace HB := bs hb; (try clear hb); have hz65 := z2 BK336))
 refine bodyPost_ret (results_ct rfl _ _ gb336 24 #[.int .i64 0, .slice none 0 0] (0, 0) _ rfl (pz BK336) Tryz.underlying24 rfl (by kernel_rfl)) rfl ?_
 exact ⟨_, rs, by first | exact Kd.R_nil _ _ _ _ _ | exact Kd.N_nil _ _ _ _ _ | exact Kd.V_nil _ _ _ _ _ | exact Kd.Q_nil _ _ _ _ _ | exact Kd.S_nil _ _ _ _ _, bw⟩

/-! ### impl_DropClue: function 21 -/
def impl_DropClue.f (k : Nat) (a0_0 : Int) (l0_1 : List (S26)) (a1 : Int) : Option (Int × (List (S26)) × Bool) := (impl_isPuzzle.f k a0_0 l0_1).bind fun t353 => (if t353 = true then ((impl_in.f a1 0 (wrap64 ((l0_1.length : Int) - 1))).bind fun t354 => (if t354 = true then ((impl_without.f l0_1 a1).bind fun t355 => (some (a0_0, t355, true))) else (some (0, ([] : List (S26)), false)))) else (some (0, ([] : List (S26)), false)))
theorem impl_DropClue.mono : ∀ a0 a1 a2 k, LeO (impl_DropClue.f k a0 a1 a2) (impl_DropClue.f (k + 1) a0 a1 a2) := by
  intro a0 a1 a2 k
  unfold impl_DropClue.f
  repeat' first
      | (with_reducible exact impl_isPuzzle.mono _ _ _)
      | (with_reducible exact LeO.refl _)
      | (with_reducible exact LeO.none _)
      | (with_reducible refine LeO.ite ?_ ?_)
      | (with_reducible refine LeO.bind ?_ (fun _ => ?_))
      | exact impl_isPuzzle.mono _ _ _
      | exact LeO.none _
      | refine LeO.ite ?_ ?_
      | refine LeO.bind ?_ (fun _ => ?_)
def impl_DropClue.T3 : Bool × List (List Nat × List Nat) := (true, [([], []), ([0], [0]), ([], []), ([2], [2]), ([], []), ([3, 4], [3, 4]), ([1, 5], [1, 5]), ([6, 5, 0, 1, 2, 3, 4, 5, 6], [6]), ([7, 0, 1, 2, 3, 4, 5, 6, 7], [])])
def impl_DropClue.B3 : List Nat := [0, 1, 0, 4, 0, 28, 63, 127, 255]
theorem impl_DropClue.tab3 : rtab .any (opsOf Tryz.f21 3) = impl_DropClue.T3 := by kernel_rfl
theorem impl_DropClue.bits3 : waitsOk impl_DropClue.T3.2 impl_DropClue.B3 = true := by kernel_rfl
set_option maxHeartbeats 8000000 in
set_option maxRecDepth 100000 in
theorem impl_DropClue.calls (k : Nat) (a0_0 : Int) (A0_1 : Option Addr) (c0_1 : Nat) (l0_1 : List (S26)) (a1 : Int) (r1 : Int) (r2 : List (S26)) (r3 : Bool) (w : World) (hr0_1 : Kd.C k26 w A0_1 l0_1.length l0_1) (hc0_1 : l0_1.length ≤ c0_1) (h : impl_DropClue.f k a0_0 l0_1 a1 = some (r1, r2, r3)) :
  Calls Tryz.prog 21 #[.agg #[.int .i64 a0_0, .slice A0_1 l0_1.length c0_1], .int .i64 a1] w fun e w' => ∃ v1_ : Value, e = .returned (.tuple #[.agg #[.int .i64 r1, v1_], .bool r3]) ∧ Kd.R k26 26 w' w.heap.size (fun _ => True) v1_ r2 ∧ Below w.heap.size w w' := by
 have hu24 := Tryz.underlying24
 have HR0_1 := Aside0.mk hr0_1
 have HC0_1 := Aside0.mk hc0_1
 clear hr0_1 hc0_1
 have HB := Aside0.mk (Below.refl w.heap.size w)
 unfold impl_DropClue.f at h
 have H := h
 clear h
 obtain ⟨t353, A3, H⟩ := ob H
 (try dsimp only at H)
 go_enter Tryz.func21, Tryz.ntmps21
 try go_wp2_with (first | ((with_reducible refine gd 2 ?_); (try (refine gate_guard (by rfl) ?_; dsimp only)); refine bx 2 24 #[.int .i64 a0_0, .slice A0_1 l0_1.length c0_1] ?_; intro gb351 hg w8 hbox hb; have BK351 := hbox; have GW351 := gs hg; have GE351 := gs hg; replace HB := bs hb; clear hb hbox hg) | ((with_reducible refine gd 4 ?_); (try (refine gate_guard (by rfl) ?_; dsimp only)); refine bx 4 24 #[.int .i64 0, .slice none 0 0] ?_; intro gb352 hg w9 hbox hb; have BK352 := hbox; have GW352 := gs hg; have GE352 := gs hg; replace HB := bs hb; have ⟨NB351_352, NB352_351⟩ := nn BK351 hg; replace BK351 := nk BK351 hb; clear hb hbox hg; have hnb10 := nb NB351_352; have hz11 := z2 BK351; refine halt ?_))
 by_cases c4 : t353 = true
 ·subst c4
  rw [if_pos rfl] at H
  obtain ⟨t354, A5, H⟩ := ob H
  (try dsimp only at H)
  refine Aside0.mk ?_
  try go_wp2_with (((with_reducible refine gc 41 ?_); refine gl (some 7) Tryz.func41 #[.agg #[.int .i64 a0_0, .slice A0_1 l0_1.length c0_1]] ?_; (with_reducible refine (impl_isPuzzle.calls k a0_0 _ _ l0_1 true _ ?_ ?_ A3.out).mono ?_); exact cb HR0_1; exact HC0_1.out; rintro e w12 ⟨rfl, hb⟩; refine ⟨_, rfl, ?_⟩; replace BK351 := nk BK351 hb; replace BK352 := nk BK352 hb; replace HB := bs hb; (try clear hb); obtain ⟨hcz13_0, hcz13_1, hfz13_0, hfz13_1⟩ := z2 BK351; refine halt ?_))
  by_cases c6 : t354 = true
  ·subst c6
   rw [if_pos rfl] at H
   obtain ⟨t355, A7, H⟩ := ob H
   (try dsimp only at H)
   simp only [Option.some.injEq, Prod.mk.injEq] at H
   obtain ⟨rfl, rfl, rfl⟩ := H
   refine Aside0.mk ?_
   try go_wp2_with ((go_at_call 28; (with_reducible refine (impl_in.calls a1 0 (wrap64 ((l0_1.length : Int) - 1)) true _ A5.out).mono ?_); rintro e w' ⟨rfl, ⟨nd, rfl⟩⟩; (try (rw [drewN_self w12]; generalize hq_ : World.drewN w12 _ = w12; have n0_ : Aside0 (w12.heap[gb351]? = some (.cells #[.int .i64 a0_0, .slice A0_1 l0_1.length c0_1] 24 (0, 0))) := ⟨by rw [← hq_]; exact (pk BK351)⟩; have n1_ : Aside0 (w12.heap[gb352]? = some (.cells #[.int .i64 0, .slice none 0 0] 24 (0, 0))) := ⟨by rw [← hq_]; exact (pk BK352)⟩; have n2_ : Aside0 (Below w.heap.size w w12) := ⟨by rw [← hq_]; exact bw⟩; clear BK351 BK352 HB hq_; have BK351 := n0_; have BK352 := n1_; have HB := n2_; clear n0_ n1_ n2_))))
   replace BK351 := Aside0.mk (blk_drew BK351.out)
   replace BK352 := Aside0.mk (blk_drew BK352.out)
   replace HB := Aside0.mk (below_drew1 HB.out)
   refine start_ (n := 9) (S := fun w' => w'.cell? ⟨gb351, 0, none⟩ = some (.int .i64 a0_0) ∧ w'.cell? ⟨gb351, 1, none⟩ = some (.slice A0_1 l0_1.length c0_1)) (ds := []) (tb 9 0) (by kernel_rfl) rfl rfl ⟨ec BK351, ec BK351⟩ (fun hHeld => ?_); refine with_tabW impl_DropClue.tab3 impl_DropClue.bits3 (fun HT_ HW_ => ?_)
   generalize w12.drew = w14 at BK351 BK352 HB hHeld ⊢
   refine pu 0 (some 19) (tb 9 1) ?_
   refine pu 2 (some 21) (tb 9 5) ?_
   refine pu 4 (some 23) (tb 9 21) ?_
   refine tk 1 (some 20) (tb 9 23) hHeld ?_
   refine tk 3 (some 22) (tb 9 31) hHeld ?_
   refine one_ (i := 5) (N := some 24) (tb 9 63) rfl rfl (one_of HT_.out (by kernel_rfl)) (by decide) (fun K hK => ?_)
   refine go1 Tryz.func45 #[.slice A0_1 l0_1.length c0_1, .int .i64 a1] ?_
   with_reducible refine (impl_without.calls _ _ l0_1 a1 t355 _ ?side1 ?side2 A7.out).mono ?_
   (case side1 => exact cb HR0_1)
   (case side2 => exact HC0_1.out)
   rintro e w15 ⟨v356, rfl, ho0, hb⟩
   refine ⟨_, rfl, ?_⟩
   have HO357 := Aside0.mk (Kd.R_lower ho0 (below_size bw))
   replace BK351 := nk BK351 hb
   replace BK352 := nk BK352 hb
   replace HB := bs hb
   (try clear hb)
   (try clear ho0)
   obtain ⟨Ao16, co16, eo16⟩ := Kd.R_slice HO357.out
   (first | subst eo16 | (injection eo16 with f1_ f2_ f3_; have f4_ := f1_.symm; have f5_ := f3_.symm; clear f1_ f2_ f3_; subst f4_; subst f5_))
   refine hK.out _ _ ⟨ec BK351, ec BK351⟩ (fun hHeld => ?_)
   clear hK K
   refine nm (some 24) ?_
   refine pu 6 (some 25) (tb 9 127) ?_
   refine one_ (i := 7) (N := none) (tb 9 255) rfl rfl (one_of HT_.out (by kernel_rfl)) (by decide) (fun K hK => ?_)
   have hs17 : w15.cell? ⟨gb352, 0, none⟩ = some (.int .i64 0) := ec BK352
   have hfs17 := blk_frozen BK352.out 0
   have hns17_0 := NB351_352.out
   have hms17_0 := NB352_351.out
   have hs18 : w15.cell? ⟨gb352, 1, none⟩ = some (.slice none 0 0) := ec BK352
   have hfs18 := blk_frozen BK352.out 1
   have hns18_0 := NB351_352.out
   have hms18_0 := NB352_351.out
   refine skip_ (w1 := ?_) (by rfl) rfl ?_ ?_
   rotate_left
   ·go_simp
    rfl
   refine hK.out _ _ ⟨((cell_far (p := ⟨gb352, _, none⟩) NB351_352.out _).trans (((cell_far (p := ⟨gb352, _, none⟩) NB351_352.out _).trans (hHeld.1)))), ((cell_far (p := ⟨gb352, _, none⟩) NB351_352.out _).trans (((cell_far (p := ⟨gb352, _, none⟩) NB351_352.out _).trans (hHeld.2))))⟩ (fun hHeld => ?_)
   clear hK K
   refine pu 8 (some 5) (tb 9 511) ?_
   refine done_ (done_of HT_.out (by kernel_rfl)) ?_
   try go_wp2
   refine bodyPost_ret (results_ct rfl _ _ gb352 24 #[.int .i64 a0_0, .slice Ao16 t355.length co16] (0, 0) _ rfl (pz BK352) Tryz.underlying24 rfl (by kernel_rfl)) rfl ?_
   exact ⟨_, rs, by (with_reducible repeat (first | apply Kd.R_alloc | apply Kd.R_drewN | apply Kd.R_drew)); exact Kd.R_mono (Kd.R_far (p := ⟨gb352, 1, none⟩) (Kd.R_far (p := ⟨gb352, 0, none⟩) (Kd.R_types HO357.out BK352.out (by decide)) (fun _ hk => hk.2) (.int .i64 a0_0)) (fun _ hk => hk.2) (.slice Ao16 t355.length co16)) (fun _ hk => trivial), bw⟩
  replace c6 := Bool.eq_false_iff.mpr c6
  subst c6
  rw [if_neg (show ¬ (false = true) by decide)] at H
  simp only [Option.some.injEq, Prod.mk.injEq] at H
  obtain ⟨rfl, rfl, rfl⟩ := H
  refine Aside0.mk ?_
  try go_wp2_with ((go_at_call 28; (with_reducible refine (impl_in.calls a1 0 (wrap64 ((l0_1.length : Int) - 1)) false _ A5.out).mono ?_); rintro e w' ⟨rfl, ⟨nd, rfl⟩⟩; (try (rw [drewN_self w12]; generalize hq_ : World.drewN w12 _ = w12; have n0_ : Aside0 (w12.heap[gb352]? = some (.cells #[.int .i64 0, .slice none 0 0] 24 (0, 0))) := ⟨by rw [← hq_]; exact (pk BK352)⟩; have n1_ : Aside0 (Below w.heap.size w w12) := ⟨by rw [← hq_]; exact bw⟩; clear BK352 HB hq_; have BK352 := n0_; have HB := n1_; clear n0_ n1_)); have hz25 := z2 BK352))
  refine bodyPost_ret (results_ct rfl _ _ gb352 24 #[.int .i64 0, .slice none 0 0] (0, 0) _ rfl (pz BK352) Tryz.underlying24 rfl (by kernel_rfl)) rfl ?_
  exact ⟨_, rs, by first | exact Kd.R_nil _ _ _ _ _ | exact Kd.N_nil _ _ _ _ _ | exact Kd.V_nil _ _ _ _ _ | exact Kd.Q_nil _ _ _ _ _ | exact Kd.S_nil _ _ _ _ _, bw⟩
 replace c4 := Bool.eq_false_iff.mpr c4
 subst c4
 rw [if_neg (show ¬ (false = true) by decide)] at H
 simp only [Option.some.injEq, Prod.mk.injEq] at H
 obtain ⟨rfl, rfl, rfl⟩ := H
 refine Aside0.mk ?_
 try go_wp2_with (((with_reducible refine gc 41 ?_); refine gl (some 7) Tryz.func41 #[.agg #[.int .i64 a0_0, .slice A0_1 l0_1.length c0_1]] ?_; (with_reducible refine (impl_isPuzzle.calls k a0_0 _ _ l0_1 false _ ?_ ?_ A3.out).mono ?_); exact cb HR0_1; exact HC0_1.out; rintro e w30 ⟨rfl, hb⟩; refine ⟨_, rfl, ?_⟩; replace BK352 := nk BK352 hb; replace HB := bs hb; (try clear hb); have hz31 := z2 BK352))
 refine bodyPost_ret (results_ct rfl _ _ gb352 24 #[.int .i64 0, .slice none 0 0] (0, 0) _ rfl (pz BK352) Tryz.underlying24 rfl (by kernel_rfl)) rfl ?_
 exact ⟨_, rs, by first | exact Kd.R_nil _ _ _ _ _ | exact Kd.N_nil _ _ _ _ _ | exact Kd.V_nil _ _ _ _ _ | exact Kd.Q_nil _ _ _ _ _ | exact Kd.S_nil _ _ _ _ _, bw⟩

end Go.Proofs.YtonhhfhlhlifcaaGreatDoor.PFnRowsHiddenOfAll
