-- Laid by xprint, a program of this session that runs over the kit's print.
import Derived.Test.YtphfbldnoinanaaPFnExactAddCluex0
import Derived.Test.YtphfbldnoinanaaPFnExactAddCluex2
namespace Go.Proofs.Ytphfbldnoinanaa.PFnExactAddClue
open Go.RowKit Go.Proofs.YtphfbldnoinanaaW.PrintWords Go.Proofs.YtphfbldnoinanaaW.PrintLast Go.Proofs.YtphfbldnoinanaaW.PrintMore Go.Proofs.Ytphfbldnoinanaa.Sq
attribute [local go_sem] max2_int min2_int max_two min_two max_three min_three max_four min_four   -- for this text's walks alone
set_option linter.unusedVariables false
set_option linter.unusedSimpArgs false

/-! ### spec_AddClue: function 11 -/
def spec_AddClue.f (k : Nat) (a0_0 : Int) (l0_1 : List (S37)) (a1_0 : Int) (a1_1 : Int) (a1_2 : Int) (a1_3 : Int) : Option (Int × (List (S37)) × Bool) := (spec_pzGood.f k a0_0 l0_1).bind fun t147 => (if t147 = true then ((spec_pzClue.f a0_0 a1_0 a1_1 a1_2 a1_3).bind fun t148 => (if t148 = true then (if (l0_1.length : Int) = 6 then (some (0, ([] : List (S37)), false)) else ((some (([] : List (S37)) : List (S37))).bind fun y149 => (if y149.length + l0_1.length < 4398046511104 then ((some (y149 ++ l0_1 : List (S37))).bind fun y152 => ((some (([(⟨a1_0, a1_1, a1_2, a1_3⟩ : S37)] : List (S37)) : List (S37))).bind fun y155 => (if y152.length + y155.length < 4398046511104 then (some (a0_0, (y152 ++ y155), true)) else (none)))) else (none)))) else (some (0, ([] : List (S37)), false)))) else (some (0, ([] : List (S37)), false)))
theorem spec_AddClue.mono : ∀ a0 a1 a2 a3 a4 a5 k, LeO (spec_AddClue.f k a0 a1 a2 a3 a4 a5) (spec_AddClue.f (k + 1) a0 a1 a2 a3 a4 a5) := by
  intro a0 a1 a2 a3 a4 a5 k
  unfold spec_AddClue.f
  repeat' first
      | (with_reducible exact spec_pzGood.mono _ _ _)
      | (with_reducible exact LeO.refl _)
      | (with_reducible exact LeO.none _)
      | (with_reducible refine LeO.ite ?_ ?_)
      | (with_reducible refine LeO.bind ?_ (fun _ => ?_))
      | exact spec_pzGood.mono _ _ _
      | exact LeO.none _
      | refine LeO.ite ?_ ?_
      | refine LeO.bind ?_ (fun _ => ?_)
def spec_AddClue.T3 : Bool × List (List Nat × List Nat) := (true, [([], []), ([0], [0]), ([], []), ([], []), ([3], [3]), ([2, 4], [2, 4]), ([], []), ([6], [6]), ([5, 7, 5], [5, 7]), ([1, 8], [1, 8]), ([9, 8, 0, 1, 2, 3, 4, 5, 6, 7, 8, 9], [9]), ([10, 0, 1, 2, 3, 4, 5, 6, 7, 8, 9, 10], [])])
def spec_AddClue.B3 : List Nat := [0, 1, 0, 0, 8, 28, 0, 64, 252, 511, 1023, 2047]
theorem spec_AddClue.tab3 : rtab .any (opsOf Try.f11 3) = spec_AddClue.T3 := by kernel_rfl
theorem spec_AddClue.bits3 : waitsOk spec_AddClue.T3.2 spec_AddClue.B3 = true := by kernel_rfl
set_option maxHeartbeats 8000000 in
set_option maxRecDepth 100000 in
theorem spec_AddClue.calls (k : Nat) (a0_0 : Int) (A0_1 : Option Addr) (c0_1 : Nat) (l0_1 : List (S37)) (a1_0 : Int) (a1_1 : Int) (a1_2 : Int) (a1_3 : Int) (r1 : Int) (r2 : List (S37)) (r3 : Bool) (w : World) (hr0_1 : Kd.C k37 w A0_1 l0_1.length l0_1) (hc0_1 : l0_1.length ≤ c0_1) (h : spec_AddClue.f k a0_0 l0_1 a1_0 a1_1 a1_2 a1_3 = some (r1, r2, r3)) :
  Calls Try.prog 11 #[.agg #[.int .i64 a0_0, .slice A0_1 l0_1.length c0_1], .agg #[.int .i64 a1_0, .int .i64 a1_1, .int .i64 a1_2, .int .i64 a1_3]] w fun e w' => ∃ v1_ : Value, e = .returned (.tuple #[.agg #[.int .i64 r1, v1_], .bool r3]) ∧ Kd.R k37 37 w' w.heap.size (fun _ => True) v1_ r2 ∧ Below w.heap.size w w' := by
 have hu29 := Try.underlying29
 have hu37 := Try.underlying37
 have HR0_1 := Aside0.mk hr0_1
 have HC0_1 := Aside0.mk hc0_1
 clear hr0_1 hc0_1
 have HB := Aside0.mk (Below.refl w.heap.size w)
 unfold spec_AddClue.f at h
 have H := h
 clear h
 replace H := Option.bind_eq_some_iff.mp H
 obtain ⟨t147, A30, H⟩ := H
 (try dsimp only at H)
 have A3 := Aside0.mk A30
 clear A30
 by_cases c4 : t147 = true
 ·subst c4
  rw [if_pos rfl] at H
  replace H := Option.bind_eq_some_iff.mp H
  obtain ⟨t148, A50, H⟩ := H
  (try dsimp only at H)
  have A5 := Aside0.mk A50
  clear A50
  by_cases c6 : t148 = true
  ·subst c6
   rw [if_pos rfl] at H
   by_cases c7 : (l0_1.length : Int) = 6
   ·rw [if_pos c7] at H
    have c7b0 : ((l0_1.length : Int) == 6) = true := beq_iff_eq.mpr c7
    have c7b1 : ((l0_1.length : Int) != 6) = false := bne_eq_false_iff_eq.mpr c7
    clear c7
    simp only [Option.some.injEq, Prod.mk.injEq] at H
    obtain ⟨rfl, rfl, rfl⟩ := H
    go_enter Try.func11, Try.ntmps11
    go_wp2_with (first | ((with_reducible refine gate_dst (N := 2) rfl ?_); (try (refine gate_guard (by rfl) ?_; dsimp only)); refine bx 2 29 #[.int .i64 a0_0, .slice A0_1 l0_1.length c0_1] ?_; intro gb144 hg w8 hbox hb; have BK144 := hbox; have GW144 := gs hg; have GE144 := gs hg; replace HB := bs hb; clear hb hbox hg) | ((with_reducible refine gate_dst (N := 3) rfl ?_); (try (refine gate_guard (by rfl) ?_; dsimp only)); refine bx 3 37 #[.int .i64 a1_0, .int .i64 a1_1, .int .i64 a1_2, .int .i64 a1_3] ?_; intro gb145 hg w9 hbox hb; have BK145 := hbox; have GW145 := gs hg; have GE145 := gs hg; replace HB := bs hb; have NB144_145 := nl BK144 hg; have NB145_144 := ng BK144 hg; replace BK144 := nk BK144 hb; clear hb hbox hg) | ((with_reducible refine gate_dst (N := 4) rfl ?_); (try (refine gate_guard (by rfl) ?_; dsimp only)); refine bx 4 29 #[.int .i64 0, .slice none 0 0] ?_; intro gb146 hg w10 hbox hb; have BK146 := hbox; have GW146 := gs hg; have GE146 := gs hg; replace HB := bs hb; have NB144_146 := nl BK144 hg; have NB146_144 := ng BK144 hg; replace BK144 := nk BK144 hb; have NB145_146 := nl BK145 hg; have NB146_145 := ng BK145 hg; replace BK145 := nk BK145 hb; clear hb hbox hg; have hnb11 := NB144_145.out; have hnc11 := NB145_144.out; have hnb12 := NB144_146.out; have hnc12 := NB146_144.out; have hcz13_0 := bc BK144 0 (.int .i64 a0_0); have hcz13_1 := bc BK144 1 (.slice A0_1 l0_1.length c0_1); have hfz13_0 := blk_frozen BK144.out 0; have hfz13_1 := blk_frozen BK144.out 1) | ((with_reducible refine gate_callee (f := 19) rfl ?_); refine gl (some 7) Try.func19 #[.agg #[.int .i64 a0_0, .slice A0_1 l0_1.length c0_1]] ?_; (with_reducible refine (spec_pzGood.calls k a0_0 _ _ l0_1 true _ ?side1 ?side2 A3.out).mono ?_); (case side1 => repeat (first | exact (Kd.C_below HR0_1.out HB.out) | (with_reducible refine Kd.C_alloc ?_ _) | (with_reducible refine Kd.C_drewN ?_ _) | (with_reducible refine Kd.C_drew ?_))); (case side2 => exact HC0_1.out); rintro e w14 ⟨rfl, hb⟩; refine ⟨_, rfl, ?_⟩; replace BK144 := nk BK144 hb; replace BK145 := nk BK145 hb; replace BK146 := nk BK146 hb; replace HB := bs hb; (try clear hb); have hcz15_0 := bc BK144 0 (.int .i64 a0_0); have hcz15_1 := bc BK144 1 (.slice A0_1 l0_1.length c0_1); have hfz15_0 := blk_frozen BK144.out 0; have hfz15_1 := blk_frozen BK144.out 1; have hnb16 := NB145_146.out; have hnc16 := NB146_145.out; have hcz17_0 := bc BK145 0 (.int .i64 a1_0); have hcz17_1 := bc BK145 1 (.int .i64 a1_1); have hcz17_2 := bc BK145 2 (.int .i64 a1_2); have hcz17_3 := bc BK145 3 (.int .i64 a1_3); have hfz17_0 := blk_frozen BK145.out 0; have hfz17_1 := blk_frozen BK145.out 1; have hfz17_2 := blk_frozen BK145.out 2; have hfz17_3 := blk_frozen BK145.out 3) | (go_at_call 23; (with_reducible refine (spec_pzClue.calls a0_0 a1_0 a1_1 a1_2 a1_3 true _ A5.out).mono ?_); rintro e w18 ⟨rfl, hb⟩; replace BK144 := nk BK144 hb; replace BK145 := nk BK145 hb; replace BK146 := nk BK146 hb; replace HB := bs hb; (try clear hb); have hcz19_0 := bc BK144 0 (.int .i64 a0_0); have hcz19_1 := bc BK144 1 (.slice A0_1 l0_1.length c0_1); have hfz19_0 := blk_frozen BK144.out 0; have hfz19_1 := blk_frozen BK144.out 1; have hcz20_0 := bc BK146 0 (.int .i64 0); have hcz20_1 := bc BK146 1 (.slice none 0 0); have hfz20_0 := blk_frozen BK146.out 0; have hfz20_1 := blk_frozen BK146.out 1))
    refine bodyPost_ret (results_ct rfl _ _ gb146 29 #[.int .i64 0, .slice none 0 0] (0, 0) _ rfl (by (with_reducible repeat (first | refine blk_drewN ?_ _ | refine blk_drew ?_ | refine blk_alloc ?_ _)); refine blk_put (cs := #[.int .i64 0, .slice none 0 0]) ?_ 1 _ rfl; (with_reducible repeat (first | refine blk_drewN ?_ _ | refine blk_drew ?_ | refine blk_alloc ?_ _)); refine blk_put (cs := #[.int .i64 0, .slice none 0 0]) ?_ 0 _ rfl; (with_reducible repeat (first | refine blk_drewN ?_ _ | refine blk_drew ?_ | refine blk_alloc ?_ _)); exact BK146.out) Try.underlying29 rfl (by kernel_rfl)) rfl ?_
    exact ⟨_, rs, by first | exact Kd.R_nil _ _ _ _ _ | exact Kd.N_nil _ _ _ _ _ | exact Kd.V_nil _ _ _ _ _ | exact Kd.Q_nil _ _ _ _ _ | exact Kd.S_nil _ _ _ _ _, bw⟩
   ·rw [if_neg c7] at H
    have c7b0 : ((l0_1.length : Int) == 6) = false := beq_eq_false_iff_ne.mpr c7
    have c7b1 : ((l0_1.length : Int) != 6) = true := bne_iff_ne.mpr c7
    obtain ⟨y149, hy149⟩ : ∃ y_ : List (S37), y_ = (([] : List (S37))) := ⟨_, rfl⟩
    replace H : (if y149.length + l0_1.length < 4398046511104 then ((some (y149 ++ l0_1 : List (S37))).bind fun y152 => ((some (([(⟨a1_0, a1_1, a1_2, a1_3⟩ : S37)] : List (S37)) : List (S37))).bind fun y155 => (if y152.length + y155.length < 4398046511104 then (some (a0_0, (y152 ++ y155), true)) else (none)))) else (none)) = some (r1, r2, r3) := by first | (rw [hy149]; with_reducible exact H) | (have H2_ := (Option.bind_some _ _).symm.trans H; rw [hy149]; with_reducible exact H2_) | (have H2_ := (Option.bind_some _ _).symm.trans H; with_reducible exact H2_) | with_reducible exact H | (rw [hy149]; exact H) | exact H
    have Ny149 := Aside0.mk hy149
    clear hy149
    by_cases c21 : y149.length + l0_1.length < 4398046511104
    ·rw [if_pos c21] at H
     have LMc21 := Aside0.mk c21
     clear c21
     obtain ⟨y152, hy152⟩ : ∃ y_ : List (S37), y_ = (y149 ++ l0_1) := ⟨_, rfl⟩
     replace H : ((some (([(⟨a1_0, a1_1, a1_2, a1_3⟩ : S37)] : List (S37)) : List (S37))).bind fun y155 => (if y152.length + y155.length < 4398046511104 then (some (a0_0, (y152 ++ y155), true)) else (none))) = some (r1, r2, r3) := by first | (rw [hy152]; with_reducible exact H) | (have H2_ := (Option.bind_some _ _).symm.trans H; rw [hy152]; with_reducible exact H2_) | (have H2_ := (Option.bind_some _ _).symm.trans H; with_reducible exact H2_) | with_reducible exact H | (rw [hy152]; exact H) | exact H
     have Ny152 := Aside0.mk hy152
     clear hy152
     obtain ⟨y155, hy155⟩ : ∃ y_ : List (S37), y_ = (([(⟨a1_0, a1_1, a1_2, a1_3⟩ : S37)] : List (S37))) := ⟨_, rfl⟩
     replace H : (if y152.length + y155.length < 4398046511104 then (some (a0_0, (y152 ++ y155), true)) else (none)) = some (r1, r2, r3) := by first | (rw [hy155]; with_reducible exact H) | (have H2_ := (Option.bind_some _ _).symm.trans H; rw [hy155]; with_reducible exact H2_) | (have H2_ := (Option.bind_some _ _).symm.trans H; with_reducible exact H2_) | with_reducible exact H | (rw [hy155]; exact H) | exact H
     have Ny155 := Aside0.mk hy155
     clear hy155
     by_cases c22 : y152.length + y155.length < 4398046511104
     ·rw [if_pos c22] at H
      have LMc22 := Aside0.mk c22
      clear c22
      obtain ⟨y158, hy158⟩ : ∃ y_ : List (S37), y_ = (y152 ++ y155) := ⟨_, rfl⟩
      replace H : (some (a0_0, y158, true)) = some (r1, r2, r3) := by first | (rw [hy158]; with_reducible exact H) | (have H2_ := (Option.bind_some _ _).symm.trans H; rw [hy158]; with_reducible exact H2_) | (have H2_ := (Option.bind_some _ _).symm.trans H; with_reducible exact H2_) | with_reducible exact H | (rw [hy158]; exact H) | exact H
      have Ny158 := Aside0.mk hy158
      clear hy158
      simp only [Option.some.injEq, Prod.mk.injEq] at H
      obtain ⟨rfl, rfl, rfl⟩ := H
      go_enter Try.func11, Try.ntmps11
      try go_wp2_with (first | ((with_reducible refine gate_dst (N := 2) rfl ?_); (try (refine gate_guard (by rfl) ?_; dsimp only)); refine bx 2 29 #[.int .i64 a0_0, .slice A0_1 l0_1.length c0_1] ?_; intro gb144 hg w23 hbox hb; have BK144 := hbox; have GW144 := gs hg; have GE144 := gs hg; replace HB := bs hb; clear hb hbox hg) | ((with_reducible refine gate_dst (N := 3) rfl ?_); (try (refine gate_guard (by rfl) ?_; dsimp only)); refine bx 3 37 #[.int .i64 a1_0, .int .i64 a1_1, .int .i64 a1_2, .int .i64 a1_3] ?_; intro gb145 hg w24 hbox hb; have BK145 := hbox; have GW145 := gs hg; have GE145 := gs hg; replace HB := bs hb; have NB144_145 := nl BK144 hg; have NB145_144 := ng BK144 hg; replace BK144 := nk BK144 hb; clear hb hbox hg) | ((with_reducible refine gate_dst (N := 4) rfl ?_); (try (refine gate_guard (by rfl) ?_; dsimp only)); refine bx 4 29 #[.int .i64 0, .slice none 0 0] ?_; intro gb146 hg w25 hbox hb; have BK146 := hbox; have GW146 := gs hg; have GE146 := gs hg; replace HB := bs hb; have NB144_146 := nl BK144 hg; have NB146_144 := ng BK144 hg; replace BK144 := nk BK144 hb; have NB145_146 := nl BK145 hg; have NB146_145 := ng BK145 hg; replace BK145 := nk BK145 hb; clear hb hbox hg; have hnb26 := NB144_145.out; have hnc26 := NB145_144.out; have hnb27 := NB144_146.out; have hnc27 := NB146_144.out; have hcz28_0 := bc BK144 0 (.int .i64 a0_0); have hcz28_1 := bc BK144 1 (.slice A0_1 l0_1.length c0_1); have hfz28_0 := blk_frozen BK144.out 0; have hfz28_1 := blk_frozen BK144.out 1) | ((with_reducible refine gate_callee (f := 19) rfl ?_); refine gl (some 7) Try.func19 #[.agg #[.int .i64 a0_0, .slice A0_1 l0_1.length c0_1]] ?_; (with_reducible refine (spec_pzGood.calls k a0_0 _ _ l0_1 true _ ?side1 ?side2 A3.out).mono ?_); (case side1 => repeat (first | exact (Kd.C_below HR0_1.out HB.out) | (with_reducible refine Kd.C_alloc ?_ _) | (with_reducible refine Kd.C_drewN ?_ _) | (with_reducible refine Kd.C_drew ?_))); (case side2 => exact HC0_1.out); rintro e w29 ⟨rfl, hb⟩; refine ⟨_, rfl, ?_⟩; replace BK144 := nk BK144 hb; replace BK145 := nk BK145 hb; replace BK146 := nk BK146 hb; replace HB := bs hb; (try clear hb); have hcz30_0 := bc BK144 0 (.int .i64 a0_0); have hcz30_1 := bc BK144 1 (.slice A0_1 l0_1.length c0_1); have hfz30_0 := blk_frozen BK144.out 0; have hfz30_1 := blk_frozen BK144.out 1; have hnb31 := NB145_146.out; have hnc31 := NB146_145.out; have hcz32_0 := bc BK145 0 (.int .i64 a1_0); have hcz32_1 := bc BK145 1 (.int .i64 a1_1); have hcz32_2 := bc BK145 2 (.int .i64 a1_2); have hcz32_3 := bc BK145 3 (.int .i64 a1_3); have hfz32_0 := blk_frozen BK145.out 0; have hfz32_1 := blk_frozen BK145.out 1; have hfz32_2 := blk_frozen BK145.out 2; have hfz32_3 := blk_frozen BK145.out 3) | (go_at_call 23; (with_reducible refine (spec_pzClue.calls a0_0 a1_0 a1_1 a1_2 a1_3 true _ A5.out).mono ?_); rintro e w33 ⟨rfl, hb⟩; replace BK144 := nk BK144 hb; replace BK145 := nk BK145 hb; replace BK146 := nk BK146 hb; replace HB := bs hb; (try clear hb); have hcz34_0 := bc BK144 0 (.int .i64 a0_0); have hcz34_1 := bc BK144 1 (.slice A0_1 l0_1.length c0_1); have hfz34_0 := blk_frozen BK144.out 0; have hfz34_1 := blk_frozen BK144.out 1))
      replace BK144 := Aside0.mk (blk_drew BK144.out)
      replace BK145 := Aside0.mk (blk_drew BK145.out)
      replace BK146 := Aside0.mk (blk_drew BK146.out)
      replace HB := Aside0.mk (below_drew1 HB.out)
      refine start_ (n := 12) (S := fun w' => w'.cell? ⟨gb144, 0, none⟩ = some (.int .i64 a0_0) ∧ w'.cell? ⟨gb144, 1, none⟩ = some (.slice A0_1 l0_1.length c0_1) ∧ w'.cell? ⟨gb145, 0, none⟩ = some (.int .i64 a1_0) ∧ w'.cell? ⟨gb145, 1, none⟩ = some (.int .i64 a1_1) ∧ w'.cell? ⟨gb145, 2, none⟩ = some (.int .i64 a1_2) ∧ w'.cell? ⟨gb145, 3, none⟩ = some (.int .i64 a1_3)) (ds := []) #[false, false, false, false, false, false, false, false, false, false, false, false] (by kernel_rfl) rfl rfl ⟨ec BK144, ec BK144, ec BK145, ec BK145, ec BK145, ec BK145⟩ (fun hHeld => ?_); refine with_tabW spec_AddClue.tab3 spec_AddClue.bits3 (fun HT_ HW_ => ?_)
      generalize w33.drew = w35 at BK144 BK145 BK146 HB hHeld ⊢
      refine pu 0 (some 23) #[true, false, false, false, false, false, false, false, false, false, false, false] ?_
      refine pu 3 (some 26) #[true, false, false, true, false, false, false, false, false, false, false, false] ?_
      refine take_ (i := 1) (N := some 24) (v := ?_) (a' := ?_) #[true, true, false, true, false, false, false, false, false, false, false, false] rfl rfl (take_ofW HT_.out HW_.out (by kernel_rfl)) (fun _ _ _ h => h) (Or.inl ⟨by rfl, ?_⟩) hHeld ?_ ?_
      rotate_left
      ·rintro w' ⟨s0, s1, s2, s3, s4, s5⟩
       go_simp
       with_reducible rfl
      rotate_left
      ·simp only [Act.put, List.setIfInBounds_toArray, List.set_cons_zero, List.set_cons_succ, i64_w, i32_w]
       rfl
      refine take_ (i := 4) (N := some 27) (v := ?_) (a' := ?_) #[true, true, false, true, true, false, false, false, false, false, false, false] rfl rfl (take_ofW HT_.out HW_.out (by kernel_rfl)) (fun _ _ _ h => h) (Or.inl ⟨by rfl, ?_⟩) hHeld ?_ ?_
      rotate_left
      ·rintro w' ⟨s0, s1, s2, s3, s4, s5⟩
       go_simp
       with_reducible rfl
      rotate_left
      ·simp only [Act.put, List.setIfInBounds_toArray, List.set_cons_zero, List.set_cons_succ, i64_w, i32_w]
       rfl
      refine take_ (i := 6) (N := some 29) (v := ?_) (a' := ?_) #[true, true, false, true, true, false, true, false, false, false, false, false] rfl rfl (take_ofW HT_.out HW_.out (by kernel_rfl)) (fun _ _ _ h => h) (Or.inl ⟨by rfl, ?_⟩) hHeld ?_ ?_
      rotate_left
      ·rintro w' ⟨s0, s1, s2, s3, s4, s5⟩
       go_simp
       with_reducible rfl
      rotate_left
      ·simp only [Act.put, List.setIfInBounds_toArray, List.set_cons_zero, List.set_cons_succ, i64_w, i32_w]
       rfl
      refine join_ (σ := Value × Value × Value) 4 #[true, true, true, true, true, true, true, true, false, false, false, false] (fun s_ => [(25, s_.1), (28, s_.2.1), (30, s_.2.2)]) (fun s_ w' => (w'.cell? ⟨gb144, 0, none⟩ = some (.int .i64 a0_0) ∧ w'.cell? ⟨gb144, 1, none⟩ = some (.slice A0_1 l0_1.length c0_1) ∧ w'.cell? ⟨gb145, 0, none⟩ = some (.int .i64 a1_0) ∧ w'.cell? ⟨gb145, 1, none⟩ = some (.int .i64 a1_1) ∧ w'.cell? ⟨gb145, 2, none⟩ = some (.int .i64 a1_2) ∧ w'.cell? ⟨gb145, 3, none⟩ = some (.int .i64 a1_3)) ∧ (Kd.R k37 37 w' w.heap.size (fun k_ => some k_ ≠ (s_.2.2 : Value).ownBlock ∧ k_ ≠ gb145) s_.2.1 y152) ∧ (Kd.R k37 37 w' w.heap.size (fun k_ => some k_ ≠ (s_.2.1 : Value).ownBlock ∧ k_ ≠ gb145) s_.2.2 y155) ∧ (w'.heap[gb144]? = some (.cells #[.int .i64 a0_0, .slice A0_1 l0_1.length c0_1] 29 (0, 0))) ∧ (w'.heap[gb145]? = some (.cells #[.int .i64 a1_0, .int .i64 a1_1, .int .i64 a1_2, .int .i64 a1_3] 37 (0, 0))) ∧ (w'.heap[gb146]? = some (.cells #[.int .i64 0, .slice none 0 0] 29 (0, 0))) ∧ (Below w.heap.size w w')) ?_ ?_
      rotate_left
      ·intro hCont
       refine two_ (i := 2) (j := 7) (Ni := some 25) (Nj := some 30) #[true, true, true, true, true, false, true, false, false, false, false, false] #[true, true, false, true, true, false, true, true, false, false, false, false] rfl rfl rfl rfl (two_of HT_.out (by kernel_rfl)) (by decide) (by decide) (fun K hK => ?_) (fun K hK => ?_)
       ·skip
        refine Kd.R_lit_step k37 _ 37 ?hg (N := 25) ?hd (xs := ([] : List (S37))) (inner := []) (ok := fun _ => True) (okp := fun _ => True) ?hr ?hp (fun _ hk => hk) trivial (Below.refl _ _) (Nat.le_refl _) (by simp) ?_; (case hd => rfl); (case hg => rfl); (case hr => first | (go_simp; done) | (go_simp; rfl)); (case hp => exact (Reps.none _ _))
        intro v150 w36 ho37 hb hg_ hnew_
        clear hg_ hnew_
        (first | rw [← Ny149.out] at ho37 | (simp only [Int.reduceToNat] at ho37; rw [← Ny149.out] at ho37))
        have HO151 := Aside0.mk (Kd.R_lower (Kd.R_newB ho37 (g := gb145) (o := .cells #[.int .i64 a1_0, .int .i64 a1_1, .int .i64 a1_2, .int .i64 a1_3] 37 (0, 0)) (pk BK145)) (below_size bw))
        replace BK144 := nk BK144 hb
        replace BK145 := nk BK145 hb
        replace BK146 := nk BK146 hb
        replace HB := bs hb
        clear hb ho37
        refine hK.out _ _ ⟨ec BK144, ec BK144, ec BK145, ec BK145, ec BK145, ec BK145⟩ (fun hHeld => ?_)
        clear hK K
        refine nm (some 25) ?_
        refine two_ (i := 5) (j := 7) (Ni := some 28) (Nj := some 30) #[true, true, true, true, true, true, true, false, false, false, false, false] #[true, true, true, true, true, false, true, true, false, false, false, false] rfl rfl rfl rfl (two_of HT_.out (by kernel_rfl)) (by decide) (by decide) (fun K hK => ?_) (fun K hK => ?_)
        ·skip
         refine Kd.R_append_rows_step k37 (w0 := w) w.heap.size (by rfl) (.tmp 25) (.tmp 27) 27 37 (.agg #[(.int .i64 0), (.int .i64 0), (.int .i64 0), (.int .i64 0)]) 32 rfl Try.underlying27 info37 rfl (by decide) (by omega) v150 y149 l0_1 _ _ _ (fun k_ => k_ ≠ gb145) (fun _ => False) rfl rfl ?aO ?aR (fun _ _ h => h) (fun _ h => h.elim) ?aF ?aB ?aS ?aL ?_
         (case aR => repeat (first | exact (Kd.C_below HR0_1.out HB.out) | (with_reducible refine Kd.C_alloc ?_ _) | (with_reducible refine Kd.C_drewN ?_ _) | (with_reducible refine Kd.C_drew ?_)))
         (case aB => exact bw)
         (case aF => exact (fun k_ hk => Kd.freshB (g := gb145) (o := .cells #[.int .i64 a1_0, .int .i64 a1_1, .int .i64 a1_2, .int .i64 a1_3] 37 (0, 0)) (pk BK145) k_ hk))
         (case aO => exact (by (with_reducible repeat (first | apply Kd.R_alloc | apply Kd.R_drewN | apply Kd.R_drew)); exact Kd.R_mono HO151.out (fun _ hk => hk.2)))
         (case aS => exact (below_size bw))
         (case aL => have := LMc21.out; omega)
         intro v153 w38 ho hb hg hat
         rw [← Ny152.out] at ho
         have n0_ := Aside0.mk (blk_grown (pk BK144) hg (Kd.R_ne HO151.out BK144.out (by decide)))
         have n1_ := Aside0.mk (blk_grown (pk BK145) hg (Kd.R_away HO151.out (fun _ hk => hk.2)))
         have n2_ := Aside0.mk (blk_grown (pk BK146) hg (Kd.R_ne HO151.out BK146.out (by decide)))
         have n3_ := Aside0.mk (hb)
         have n4_ := Aside0.mk (ho)
         clear BK144
         clear BK145
         clear BK146
         clear HB
         clear HO151
         have BK144 := n0_
         have BK145 := n1_
         have BK146 := n2_
         have HB := n3_
         have HO154 := n4_
         clear n0_ n1_ n2_ n3_ n4_
         clear ho hb hg hat
         refine hK.out _ _ ⟨ec BK144, ec BK144, ec BK145, ec BK145, ec BK145, ec BK145⟩ (fun hHeld => ?_)
         clear hK K
         refine nm (some 28) ?_
         refine one_ (i := 7) (N := some 30) #[true, true, true, true, true, true, true, true, false, false, false, false] rfl rfl (one_of HT_.out (by kernel_rfl)) (by decide) (fun K hK => ?_)
         refine Kd.R_lit_step k37 _ 37 ?hg (N := 30) ?hd (xs := ([(⟨a1_0, a1_1, a1_2, a1_3⟩ : S37)] : List (S37))) (inner := [.int .i64 a1_0, .int .i64 a1_1, .int .i64 a1_2, .int .i64 a1_3]) (ok := fun _ => True) (okp := fun _ => True) ?hr ?hp (fun _ hk => hk) trivial (Below.refl _ _) (Nat.le_refl _) (by simp) ?_; (case hd => rfl); (case hg => rfl); (case hr => first | (go_simp; done) | (go_simp; rfl)); (case hp => exact (Reps.c4 (show Kd.M k37 _ _ _ (⟨a1_0, a1_1, a1_2, a1_3⟩ : S37) [.int .i64 a1_0, .int .i64 a1_1, .int .i64 a1_2, .int .i64 a1_3] from (k37_mkM _ _ _ (⟨a1_0, a1_1, a1_2, a1_3⟩ : S37) )) (Reps.none _ _)))
         intro v156 w39 ho40 hb hg_ hnew_
         clear hg_ hnew_
         (first | rw [← Ny155.out] at ho40 | (simp only [Int.reduceToNat] at ho40; rw [← Ny155.out] at ho40))
         have HO157 := Aside0.mk (Kd.R_lower (Kd.R_newB (Kd.R_new' ho40 (Kd.R_lt (pr HO154))) (g := gb145) (o := .cells #[.int .i64 a1_0, .int .i64 a1_1, .int .i64 a1_2, .int .i64 a1_3] 37 (0, 0)) (pk BK145)) (below_size bw))
         replace HO154 := Aside0.mk (Kd.R_elder' (pr HO154) (Kd.R_base ho40) hb)
         replace BK144 := nk BK144 hb
         replace BK145 := nk BK145 hb
         replace BK146 := nk BK146 hb
         replace HB := bs hb
         clear hb ho40
         refine hK.out _ _ ⟨ec BK144, ec BK144, ec BK145, ec BK145, ec BK145, ec BK145⟩ (fun hHeld => ?_)
         clear hK K
         refine nm (some 30) ?_
         exact norm_ (by simp only [putAll, Act.put, List.setIfInBounds_toArray, List.set_cons_zero, List.set_cons_succ]) (hCont (v150, v153, v156) _ ⟨hHeld, (by (with_reducible repeat (first | apply Kd.R_alloc | apply Kd.R_drewN | apply Kd.R_drew)); exact Kd.R_mono HO154.out (fun _ hk => ⟨hk.2, hk.1⟩)), (by (with_reducible repeat (first | apply Kd.R_alloc | apply Kd.R_drewN | apply Kd.R_drew)); exact Kd.R_mono HO157.out (fun _ hk => ⟨hk.1.2, hk.2⟩)), (pk BK144), (pk BK145), (pk BK146), bw⟩)
        ·skip
         refine Kd.R_lit_step k37 _ 37 ?hg (N := 30) ?hd (xs := ([(⟨a1_0, a1_1, a1_2, a1_3⟩ : S37)] : List (S37))) (inner := [.int .i64 a1_0, .int .i64 a1_1, .int .i64 a1_2, .int .i64 a1_3]) (ok := fun _ => True) (okp := fun _ => True) ?hr ?hp (fun _ hk => hk) trivial (Below.refl _ _) (Nat.le_refl _) (by simp) ?_; (case hd => rfl); (case hg => rfl); (case hr => first | (go_simp; done) | (go_simp; rfl)); (case hp => exact (Reps.c4 (show Kd.M k37 _ _ _ (⟨a1_0, a1_1, a1_2, a1_3⟩ : S37) [.int .i64 a1_0, .int .i64 a1_1, .int .i64 a1_2, .int .i64 a1_3] from (k37_mkM _ _ _ (⟨a1_0, a1_1, a1_2, a1_3⟩ : S37) )) (Reps.none _ _)))
         intro v156 w38 ho39 hb hg_ hnew_
         clear hg_ hnew_
         (first | rw [← Ny155.out] at ho39 | (simp only [Int.reduceToNat] at ho39; rw [← Ny155.out] at ho39))
         have HO157 := Aside0.mk (Kd.R_lower (Kd.R_newB (Kd.R_new' ho39 (Kd.R_lt (pr HO151))) (g := gb145) (o := .cells #[.int .i64 a1_0, .int .i64 a1_1, .int .i64 a1_2, .int .i64 a1_3] 37 (0, 0)) (pk BK145)) (below_size bw))
         replace HO151 := Aside0.mk (Kd.R_elder' (pr HO151) (Kd.R_base ho39) hb)
         replace BK144 := nk BK144 hb
         replace BK145 := nk BK145 hb
         replace BK146 := nk BK146 hb
         replace HB := bs hb
         clear hb ho39
         refine hK.out _ _ ⟨ec BK144, ec BK144, ec BK145, ec BK145, ec BK145, ec BK145⟩ (fun hHeld => ?_)
         clear hK K
         refine nm (some 30) ?_
         refine one_ (i := 5) (N := some 28) #[true, true, true, true, true, true, true, true, false, false, false, false] rfl rfl (one_of HT_.out (by kernel_rfl)) (by decide) (fun K hK => ?_)
         refine Kd.R_append_rows_step k37 (w0 := w) w.heap.size (by rfl) (.tmp 25) (.tmp 27) 27 37 (.agg #[(.int .i64 0), (.int .i64 0), (.int .i64 0), (.int .i64 0)]) 32 rfl Try.underlying27 info37 rfl (by decide) (by omega) v150 y149 l0_1 _ _ _ (fun k_ => some k_ ≠ (v156 : Value).ownBlock ∧ k_ ≠ gb145) (fun _ => False) rfl rfl ?aO ?aR (fun _ _ h => h) (fun _ h => h.elim) ?aF ?aB ?aS ?aL ?_
         (case aR => repeat (first | exact (Kd.C_below HR0_1.out HB.out) | (with_reducible refine Kd.C_alloc ?_ _) | (with_reducible refine Kd.C_drewN ?_ _) | (with_reducible refine Kd.C_drew ?_)))
         (case aB => exact bw)
         (case aF => exact (fun k_ hk => ⟨Kd.fresh' (Kd.R_lt (pr HO157)) k_ hk, Kd.freshB (g := gb145) (o := .cells #[.int .i64 a1_0, .int .i64 a1_1, .int .i64 a1_2, .int .i64 a1_3] 37 (0, 0)) (pk BK145) k_ hk⟩))
         (case aO => exact (by (with_reducible repeat (first | apply Kd.R_alloc | apply Kd.R_drewN | apply Kd.R_drew)); exact Kd.R_mono HO151.out (fun _ hk => ⟨hk.2, hk.1.2⟩)))
         (case aS => exact (below_size bw))
         (case aL => have := LMc21.out; omega)
         intro v153 w40 ho hb hg hat
         rw [← Ny152.out] at ho
         have n0_ := Aside0.mk (blk_grown (pk BK144) hg (Kd.R_ne HO151.out BK144.out (by decide)))
         have n1_ := Aside0.mk (blk_grown (pk BK145) hg (Kd.R_away HO151.out (fun _ hk => hk.1.2)))
         have n2_ := Aside0.mk (blk_grown (pk BK146) hg (Kd.R_ne HO151.out BK146.out (by decide)))
         have n3_ := Aside0.mk (Kd.R_after (ok := (fun k_ => k_ ≠ gb145)) (by (with_reducible repeat (first | apply Kd.R_alloc | apply Kd.R_drewN | apply Kd.R_drew)); exact Kd.R_mono HO157.out (fun _ hk => ⟨hk.2, hk.1.2⟩)) hg hat)
         have n4_ := Aside0.mk (hb)
         have n5_ := Aside0.mk (ho)
         clear BK144
         clear BK145
         clear BK146
         clear HO157
         clear HB
         clear HO151
         have BK144 := n0_
         have BK145 := n1_
         have BK146 := n2_
         have HO157 := n3_
         have HB := n4_
         have HO154 := n5_
         clear n0_ n1_ n2_ n3_ n4_ n5_
         clear ho hb hg hat
         refine hK.out _ _ ⟨ec BK144, ec BK144, ec BK145, ec BK145, ec BK145, ec BK145⟩ (fun hHeld => ?_)
         clear hK K
         refine nm (some 28) ?_
         exact norm_ (by simp only [putAll, Act.put, List.setIfInBounds_toArray, List.set_cons_zero, List.set_cons_succ]) (hCont (v150, v153, v156) _ ⟨hHeld, (pr HO154), (by (with_reducible repeat (first | apply Kd.R_alloc | apply Kd.R_drewN | apply Kd.R_drew)); exact Kd.R_mono HO157.out (fun _ hk => ⟨hk.2, hk.1⟩)), (pk BK144), (pk BK145), (pk BK146), bw⟩)
       ·skip
        refine Kd.R_lit_step k37 _ 37 ?hg (N := 30) ?hd (xs := ([(⟨a1_0, a1_1, a1_2, a1_3⟩ : S37)] : List (S37))) (inner := [.int .i64 a1_0, .int .i64 a1_1, .int .i64 a1_2, .int .i64 a1_3]) (ok := fun _ => True) (okp := fun _ => True) ?hr ?hp (fun _ hk => hk) trivial (Below.refl _ _) (Nat.le_refl _) (by simp) ?_; (case hd => rfl); (case hg => rfl); (case hr => first | (go_simp; done) | (go_simp; rfl)); (case hp => exact (Reps.c4 (show Kd.M k37 _ _ _ (⟨a1_0, a1_1, a1_2, a1_3⟩ : S37) [.int .i64 a1_0, .int .i64 a1_1, .int .i64 a1_2, .int .i64 a1_3] from (k37_mkM _ _ _ (⟨a1_0, a1_1, a1_2, a1_3⟩ : S37) )) (Reps.none _ _)))
        intro v156 w36 ho37 hb hg_ hnew_
        clear hg_ hnew_
        (first | rw [← Ny155.out] at ho37 | (simp only [Int.reduceToNat] at ho37; rw [← Ny155.out] at ho37))
        have HO157 := Aside0.mk (Kd.R_lower (Kd.R_newB ho37 (g := gb145) (o := .cells #[.int .i64 a1_0, .int .i64 a1_1, .int .i64 a1_2, .int .i64 a1_3] 37 (0, 0)) (pk BK145)) (below_size bw))
        replace BK144 := nk BK144 hb
        replace BK145 := nk BK145 hb
        replace BK146 := nk BK146 hb
        replace HB := bs hb
        clear hb ho37
        refine hK.out _ _ ⟨ec BK144, ec BK144, ec BK145, ec BK145, ec BK145, ec BK145⟩ (fun hHeld => ?_)
        clear hK K
        refine nm (some 30) ?_
        refine one_ (i := 2) (N := some 25) #[true, true, true, true, true, false, true, true, false, false, false, false] rfl rfl (one_of HT_.out (by kernel_rfl)) (by decide) (fun K hK => ?_)
        refine Kd.R_lit_step k37 _ 37 ?hg (N := 25) ?hd (xs := ([] : List (S37))) (inner := []) (ok := fun _ => True) (okp := fun _ => True) ?hr ?hp (fun _ hk => hk) trivial (Below.refl _ _) (Nat.le_refl _) (by simp) ?_; (case hd => rfl); (case hg => rfl); (case hr => first | (go_simp; done) | (go_simp; rfl)); (case hp => exact (Reps.none _ _))
        intro v150 w38 ho39 hb hg_ hnew_
        clear hg_ hnew_
        (first | rw [← Ny149.out] at ho39 | (simp only [Int.reduceToNat] at ho39; rw [← Ny149.out] at ho39))
        have HO151 := Aside0.mk (Kd.R_lower (Kd.R_newB (Kd.R_new' ho39 (Kd.R_lt (pr HO157))) (g := gb145) (o := .cells #[.int .i64 a1_0, .int .i64 a1_1, .int .i64 a1_2, .int .i64 a1_3] 37 (0, 0)) (pk BK145)) (below_size bw))
        replace HO157 := Aside0.mk (Kd.R_elder' (pr HO157) (Kd.R_base ho39) hb)
        replace BK144 := nk BK144 hb
        replace BK145 := nk BK145 hb
        replace BK146 := nk BK146 hb
        replace HB := bs hb
        clear hb ho39
        refine hK.out _ _ ⟨ec BK144, ec BK144, ec BK145, ec BK145, ec BK145, ec BK145⟩ (fun hHeld => ?_)
        clear hK K
        refine nm (some 25) ?_
        refine one_ (i := 5) (N := some 28) #[true, true, true, true, true, true, true, true, false, false, false, false] rfl rfl (one_of HT_.out (by kernel_rfl)) (by decide) (fun K hK => ?_)
        refine Kd.R_append_rows_step k37 (w0 := w) w.heap.size (by rfl) (.tmp 25) (.tmp 27) 27 37 (.agg #[(.int .i64 0), (.int .i64 0), (.int .i64 0), (.int .i64 0)]) 32 rfl Try.underlying27 info37 rfl (by decide) (by omega) v150 y149 l0_1 _ _ _ (fun k_ => some k_ ≠ (v156 : Value).ownBlock ∧ k_ ≠ gb145) (fun _ => False) rfl rfl ?aO ?aR (fun _ _ h => h) (fun _ h => h.elim) ?aF ?aB ?aS ?aL ?_
        (case aR => repeat (first | exact (Kd.C_below HR0_1.out HB.out) | (with_reducible refine Kd.C_alloc ?_ _) | (with_reducible refine Kd.C_drewN ?_ _) | (with_reducible refine Kd.C_drew ?_)))
        (case aB => exact bw)
        (case aF => exact (fun k_ hk => ⟨Kd.fresh' (Kd.R_lt (pr HO157)) k_ hk, Kd.freshB (g := gb145) (o := .cells #[.int .i64 a1_0, .int .i64 a1_1, .int .i64 a1_2, .int .i64 a1_3] 37 (0, 0)) (pk BK145) k_ hk⟩))
        (case aO => exact (by (with_reducible repeat (first | apply Kd.R_alloc | apply Kd.R_drewN | apply Kd.R_drew)); exact Kd.R_mono HO151.out (fun _ hk => ⟨hk.1.2, hk.2⟩)))
        (case aS => exact (below_size bw))
        (case aL => have := LMc21.out; omega)
        intro v153 w40 ho hb hg hat
        rw [← Ny152.out] at ho
        have n0_ := Aside0.mk (blk_grown (pk BK144) hg (Kd.R_ne HO151.out BK144.out (by decide)))
        have n1_ := Aside0.mk (blk_grown (pk BK145) hg (Kd.R_away HO151.out (fun _ hk => hk.2)))
        have n2_ := Aside0.mk (blk_grown (pk BK146) hg (Kd.R_ne HO151.out BK146.out (by decide)))
        have n3_ := Aside0.mk (Kd.R_after (ok := (fun k_ => k_ ≠ gb145)) (by (with_reducible repeat (first | apply Kd.R_alloc | apply Kd.R_drewN | apply Kd.R_drew)); exact Kd.R_mono HO157.out (fun _ hk => ⟨hk.1.2, hk.2⟩)) hg hat)
        have n4_ := Aside0.mk (hb)
        have n5_ := Aside0.mk (ho)
        clear BK144
        clear BK145
        clear BK146
        clear HO157
        clear HB
        clear HO151
        have BK144 := n0_
        have BK145 := n1_
        have BK146 := n2_
        have HO157 := n3_
        have HB := n4_
        have HO154 := n5_
        clear n0_ n1_ n2_ n3_ n4_ n5_
        clear ho hb hg hat
        refine hK.out _ _ ⟨ec BK144, ec BK144, ec BK145, ec BK145, ec BK145, ec BK145⟩ (fun hHeld => ?_)
        clear hK K
        refine nm (some 28) ?_
        exact norm_ (by simp only [putAll, Act.put, List.setIfInBounds_toArray, List.set_cons_zero, List.set_cons_succ]) (hCont (v150, v153, v156) _ ⟨hHeld, (pr HO154), (by (with_reducible repeat (first | apply Kd.R_alloc | apply Kd.R_drewN | apply Kd.R_drew)); exact Kd.R_mono HO157.out (fun _ hk => ⟨hk.2, hk.1⟩)), (pk BK144), (pk BK145), (pk BK146), bw⟩)
      rintro ⟨v150, v153, v156⟩ w41 ⟨hS_, h0_, h1_, h2_, h3_, h4_, h5_⟩
      have n0_ : Aside0 (Kd.R k37 37 w41 w.heap.size (fun k_ => some k_ ≠ (v156 : Value).ownBlock ∧ k_ ≠ gb145) v153 y152) := ⟨h0_⟩
      have n1_ : Aside0 (Kd.R k37 37 w41 w.heap.size (fun k_ => some k_ ≠ (v153 : Value).ownBlock ∧ k_ ≠ gb145) v156 y155) := ⟨h1_⟩
      have n2_ : Aside0 (w41.heap[gb144]? = some (.cells #[.int .i64 a0_0, .slice A0_1 l0_1.length c0_1] 29 (0, 0))) := ⟨h2_⟩
      have n3_ : Aside0 (w41.heap[gb145]? = some (.cells #[.int .i64 a1_0, .int .i64 a1_1, .int .i64 a1_2, .int .i64 a1_3] 37 (0, 0))) := ⟨h3_⟩
      have n4_ : Aside0 (w41.heap[gb146]? = some (.cells #[.int .i64 0, .slice none 0 0] 29 (0, 0))) := ⟨h4_⟩
      have n5_ : Aside0 (Below w.heap.size w w41) := ⟨h5_⟩
      clear BK144
      clear BK145
      clear BK146
      clear HB
      clear h0_ h1_ h2_ h3_ h4_ h5_
      have HO154 := n0_
      have HO157 := n1_
      have BK144 := n2_
      have BK145 := n3_
      have BK146 := n4_
      have HB := n5_
      clear n0_ n1_ n2_ n3_ n4_ n5_
      have hHeld : w41.cell? ⟨gb144, 0, none⟩ = some (.int .i64 a0_0) ∧ w41.cell? ⟨gb144, 1, none⟩ = some (.slice A0_1 l0_1.length c0_1) ∧ w41.cell? ⟨gb145, 0, none⟩ = some (.int .i64 a1_0) ∧ w41.cell? ⟨gb145, 1, none⟩ = some (.int .i64 a1_1) ∧ w41.cell? ⟨gb145, 2, none⟩ = some (.int .i64 a1_2) ∧ w41.cell? ⟨gb145, 3, none⟩ = some (.int .i64 a1_3) := hS_
      obtain ⟨Ao43, co43, eo43⟩ := Kd.R_slice HO157.out
      (first | subst eo43 | (injection eo43 with f1_ f2_ f3_; have f4_ := f1_.symm; have f5_ := f3_.symm; clear f1_ f2_ f3_; subst f4_; subst f5_))
      refine norm_ (a' := ?_) ?_ ?_
      rotate_left
      ·simp only [putAll, Act.put, List.setIfInBounds_toArray, List.set_cons_zero, List.set_cons_succ]
       rfl
      refine one_ (i := 8) (N := some 31) #[true, true, true, true, true, true, true, true, true, false, false, false] rfl rfl (one_of HT_.out (by kernel_rfl)) (by decide) (fun K hK => ?_)
      refine Kd.R_append_rows_step k37 (w0 := w) w.heap.size (by rfl) (.tmp 28) (.tmp 30) 27 37 (.agg #[(.int .i64 0), (.int .i64 0), (.int .i64 0), (.int .i64 0)]) 32 rfl Try.underlying27 info37 rfl (by decide) (by omega) v153 y152 y155 _ _ _ (fun k_ => some k_ ≠ (.slice Ao43 y155.length co43 : Value).ownBlock ∧ k_ ≠ gb145) (fun _ => False) rfl rfl ?aO ?aR (fun _ _ h => h) (fun _ h => h.elim) ?aF ?aB ?aS ?aL ?_
      (case aR => repeat (first | exact (Kd.R_reads' HO157.out).2.2 | (with_reducible refine Kd.C_alloc ?_ _) | (with_reducible refine Kd.C_drewN ?_ _) | (with_reducible refine Kd.C_drew ?_)))
      (case aB => exact bw)
      (case aF => exact (fun k_ hk => ⟨Kd.fresh' (Kd.R_lt (pr HO157)) k_ hk, Kd.freshB (g := gb145) (o := .cells #[.int .i64 a1_0, .int .i64 a1_1, .int .i64 a1_2, .int .i64 a1_3] 37 (0, 0)) (pk BK145) k_ hk⟩))
      (case aO => exact (pr HO154))
      (case aS => exact (below_size bw))
      (case aL => have := LMc22.out; omega)
      intro v159 w42 ho hb hg hat
      rw [← Ny158.out] at ho
      have n0_ := Aside0.mk (blk_grown (pk BK144) hg (Kd.R_ne HO154.out BK144.out (by decide)))
      have n1_ := Aside0.mk (blk_grown (pk BK145) hg (Kd.R_away HO154.out (fun _ hk => hk.2)))
      have n2_ := Aside0.mk (blk_grown (pk BK146) hg (Kd.R_ne HO154.out BK146.out (by decide)))
      have n3_ := Aside0.mk (Kd.R_after (ok := (fun k_ => k_ ≠ gb145)) (by (with_reducible repeat (first | apply Kd.R_alloc | apply Kd.R_drewN | apply Kd.R_drew)); exact Kd.R_mono HO157.out (fun _ hk => ⟨hk.2, hk.1⟩)) hg hat)
      have n4_ := Aside0.mk (hb)
      have n5_ := Aside0.mk (ho)
      clear BK144
      clear BK145
      clear BK146
      clear HO157
      clear HB
      clear HO154
      have BK144 := n0_
      have BK145 := n1_
      have BK146 := n2_
      have HO157 := n3_
      have HB := n4_
      have HO160 := n5_
      clear n0_ n1_ n2_ n3_ n4_ n5_
      clear ho hb hg hat
      obtain ⟨Ao44, co44, eo44⟩ := Kd.R_slice HO160.out
      (first | subst eo44 | (injection eo44 with f1_ f2_ f3_; have f4_ := f1_.symm; have f5_ := f3_.symm; clear f1_ f2_ f3_; subst f4_; subst f5_))
      refine hK.out _ _ ⟨ec BK144, ec BK144, ec BK145, ec BK145, ec BK145, ec BK145⟩ (fun hHeld => ?_)
      clear hK K
      refine nm (some 31) ?_
      refine pu 9 (some 32) #[true, true, true, true, true, true, true, true, true, true, false, false] ?_
      refine one_ (i := 10) (N := none) #[true, true, true, true, true, true, true, true, true, true, true, false] rfl rfl (one_of HT_.out (by kernel_rfl)) (by decide) (fun K hK => ?_)
      have hs45 : w42.cell? ⟨gb146, 0, none⟩ = some (.int .i64 0) := ec BK146
      have hfs45 := blk_frozen BK146.out 0
      have hns45_0 := NB144_146.out
      have hns45_1 := NB145_146.out
      have hms45_0 := NB146_144.out
      have hms45_1 := NB146_145.out
      have hs46 : w42.cell? ⟨gb146, 1, none⟩ = some (.slice none 0 0) := ec BK146
      have hfs46 := blk_frozen BK146.out 1
      have hns46_0 := NB144_146.out
      have hns46_1 := NB145_146.out
      have hms46_0 := NB146_144.out
      have hms46_1 := NB146_145.out
      refine skip_ (w1 := ?_) (by rfl) rfl ?_ ?_
      rotate_left
      ·go_simp
       rfl
      refine hK.out _ _ ⟨((cell_far (p := ⟨gb146, _, none⟩) NB144_146.out _).trans (((cell_far (p := ⟨gb146, _, none⟩) NB144_146.out _).trans (hHeld.1)))), ((cell_far (p := ⟨gb146, _, none⟩) NB144_146.out _).trans (((cell_far (p := ⟨gb146, _, none⟩) NB144_146.out _).trans (hHeld.2.1)))), ((cell_far (p := ⟨gb146, _, none⟩) NB145_146.out _).trans (((cell_far (p := ⟨gb146, _, none⟩) NB145_146.out _).trans (hHeld.2.2.1)))), ((cell_far (p := ⟨gb146, _, none⟩) NB145_146.out _).trans (((cell_far (p := ⟨gb146, _, none⟩) NB145_146.out _).trans (hHeld.2.2.2.1)))), ((cell_far (p := ⟨gb146, _, none⟩) NB145_146.out _).trans (((cell_far (p := ⟨gb146, _, none⟩) NB145_146.out _).trans (hHeld.2.2.2.2.1)))), ((cell_far (p := ⟨gb146, _, none⟩) NB145_146.out _).trans (((cell_far (p := ⟨gb146, _, none⟩) NB145_146.out _).trans (hHeld.2.2.2.2.2))))⟩ (fun hHeld => ?_)
      clear hK K
      refine pu 11 (some 5) #[true, true, true, true, true, true, true, true, true, true, true, true] ?_
      refine done_ (done_of HT_.out (by kernel_rfl)) ?_
      try go_wp2
      refine bodyPost_ret (results_ct rfl _ _ gb146 29 #[.int .i64 a0_0, .slice Ao44 y158.length co44] (0, 0) _ rfl (by (with_reducible repeat (first | refine blk_drewN ?_ _ | refine blk_drew ?_ | refine blk_alloc ?_ _)); refine blk_put (cs := #[.int .i64 a0_0, .slice none 0 0]) ?_ 1 _ rfl; (with_reducible repeat (first | refine blk_drewN ?_ _ | refine blk_drew ?_ | refine blk_alloc ?_ _)); refine blk_put (cs := #[.int .i64 0, .slice none 0 0]) ?_ 0 _ rfl; (with_reducible repeat (first | refine blk_drewN ?_ _ | refine blk_drew ?_ | refine blk_alloc ?_ _)); exact BK146.out) Try.underlying29 rfl (by kernel_rfl)) rfl ?_
      exact ⟨_, rs, by (with_reducible repeat (first | apply Kd.R_alloc | apply Kd.R_drewN | apply Kd.R_drew)); exact Kd.R_mono (Kd.R_far (p := ⟨gb146, 1, none⟩) (Kd.R_far (p := ⟨gb146, 0, none⟩) (Kd.R_types HO160.out BK146.out (by decide)) (fun _ hk => hk.2) (.int .i64 a0_0)) (fun _ hk => hk.2) (.slice Ao44 y158.length co44)) (fun _ hk => trivial), bw⟩
     ·rw [if_neg c22] at H
      exact absurd H (by simp)
    ·rw [if_neg c21] at H
     exact absurd H (by simp)
  ·replace c6 := Bool.eq_false_iff.mpr c6
   subst c6
   rw [if_neg (show ¬ (false = true) by decide)] at H
   simp only [Option.some.injEq, Prod.mk.injEq] at H
   obtain ⟨rfl, rfl, rfl⟩ := H
   go_enter Try.func11, Try.ntmps11
   go_wp2_with (first | ((with_reducible refine gate_dst (N := 2) rfl ?_); (try (refine gate_guard (by rfl) ?_; dsimp only)); refine bx 2 29 #[.int .i64 a0_0, .slice A0_1 l0_1.length c0_1] ?_; intro gb144 hg w47 hbox hb; have BK144 := hbox; have GW144 := gs hg; have GE144 := gs hg; replace HB := bs hb; clear hb hbox hg) | ((with_reducible refine gate_dst (N := 3) rfl ?_); (try (refine gate_guard (by rfl) ?_; dsimp only)); refine bx 3 37 #[.int .i64 a1_0, .int .i64 a1_1, .int .i64 a1_2, .int .i64 a1_3] ?_; intro gb145 hg w48 hbox hb; have BK145 := hbox; have GW145 := gs hg; have GE145 := gs hg; replace HB := bs hb; have NB144_145 := nl BK144 hg; have NB145_144 := ng BK144 hg; replace BK144 := nk BK144 hb; clear hb hbox hg) | ((with_reducible refine gate_dst (N := 4) rfl ?_); (try (refine gate_guard (by rfl) ?_; dsimp only)); refine bx 4 29 #[.int .i64 0, .slice none 0 0] ?_; intro gb146 hg w49 hbox hb; have BK146 := hbox; have GW146 := gs hg; have GE146 := gs hg; replace HB := bs hb; have NB144_146 := nl BK144 hg; have NB146_144 := ng BK144 hg; replace BK144 := nk BK144 hb; have NB145_146 := nl BK145 hg; have NB146_145 := ng BK145 hg; replace BK145 := nk BK145 hb; clear hb hbox hg; have hnb50 := NB144_145.out; have hnc50 := NB145_144.out; have hnb51 := NB144_146.out; have hnc51 := NB146_144.out; have hcz52_0 := bc BK144 0 (.int .i64 a0_0); have hcz52_1 := bc BK144 1 (.slice A0_1 l0_1.length c0_1); have hfz52_0 := blk_frozen BK144.out 0; have hfz52_1 := blk_frozen BK144.out 1) | ((with_reducible refine gate_callee (f := 19) rfl ?_); refine gl (some 7) Try.func19 #[.agg #[.int .i64 a0_0, .slice A0_1 l0_1.length c0_1]] ?_; (with_reducible refine (spec_pzGood.calls k a0_0 _ _ l0_1 true _ ?side1 ?side2 A3.out).mono ?_); (case side1 => repeat (first | exact (Kd.C_below HR0_1.out HB.out) | (with_reducible refine Kd.C_alloc ?_ _) | (with_reducible refine Kd.C_drewN ?_ _) | (with_reducible refine Kd.C_drew ?_))); (case side2 => exact HC0_1.out); rintro e w53 ⟨rfl, hb⟩; refine ⟨_, rfl, ?_⟩; replace BK144 := nk BK144 hb; replace BK145 := nk BK145 hb; replace BK146 := nk BK146 hb; replace HB := bs hb; (try clear hb); have hcz54_0 := bc BK144 0 (.int .i64 a0_0); have hcz54_1 := bc BK144 1 (.slice A0_1 l0_1.length c0_1); have hfz54_0 := blk_frozen BK144.out 0; have hfz54_1 := blk_frozen BK144.out 1; have hnb55 := NB145_146.out; have hnc55 := NB146_145.out; have hcz56_0 := bc BK145 0 (.int .i64 a1_0); have hcz56_1 := bc BK145 1 (.int .i64 a1_1); have hcz56_2 := bc BK145 2 (.int .i64 a1_2); have hcz56_3 := bc BK145 3 (.int .i64 a1_3); have hfz56_0 := blk_frozen BK145.out 0; have hfz56_1 := blk_frozen BK145.out 1; have hfz56_2 := blk_frozen BK145.out 2; have hfz56_3 := blk_frozen BK145.out 3) | (go_at_call 23; (with_reducible refine (spec_pzClue.calls a0_0 a1_0 a1_1 a1_2 a1_3 false _ A5.out).mono ?_); rintro e w57 ⟨rfl, hb⟩; replace BK144 := nk BK144 hb; replace BK145 := nk BK145 hb; replace BK146 := nk BK146 hb; replace HB := bs hb; (try clear hb); have hcz58_0 := bc BK146 0 (.int .i64 0); have hcz58_1 := bc BK146 1 (.slice none 0 0); have hfz58_0 := blk_frozen BK146.out 0; have hfz58_1 := blk_frozen BK146.out 1))
   refine bodyPost_ret (results_ct rfl _ _ gb146 29 #[.int .i64 0, .slice none 0 0] (0, 0) _ rfl (by (with_reducible repeat (first | refine blk_drewN ?_ _ | refine blk_drew ?_ | refine blk_alloc ?_ _)); refine blk_put (cs := #[.int .i64 0, .slice none 0 0]) ?_ 1 _ rfl; (with_reducible repeat (first | refine blk_drewN ?_ _ | refine blk_drew ?_ | refine blk_alloc ?_ _)); refine blk_put (cs := #[.int .i64 0, .slice none 0 0]) ?_ 0 _ rfl; (with_reducible repeat (first | refine blk_drewN ?_ _ | refine blk_drew ?_ | refine blk_alloc ?_ _)); exact BK146.out) Try.underlying29 rfl (by kernel_rfl)) rfl ?_
   exact ⟨_, rs, by first | exact Kd.R_nil _ _ _ _ _ | exact Kd.N_nil _ _ _ _ _ | exact Kd.V_nil _ _ _ _ _ | exact Kd.Q_nil _ _ _ _ _ | exact Kd.S_nil _ _ _ _ _, bw⟩
 ·replace c4 := Bool.eq_false_iff.mpr c4
  subst c4
  rw [if_neg (show ¬ (false = true) by decide)] at H
  simp only [Option.some.injEq, Prod.mk.injEq] at H
  obtain ⟨rfl, rfl, rfl⟩ := H
  go_enter Try.func11, Try.ntmps11
  go_wp2_with (first | ((with_reducible refine gate_dst (N := 2) rfl ?_); (try (refine gate_guard (by rfl) ?_; dsimp only)); refine bx 2 29 #[.int .i64 a0_0, .slice A0_1 l0_1.length c0_1] ?_; intro gb144 hg w59 hbox hb; have BK144 := hbox; have GW144 := gs hg; have GE144 := gs hg; replace HB := bs hb; clear hb hbox hg) | ((with_reducible refine gate_dst (N := 3) rfl ?_); (try (refine gate_guard (by rfl) ?_; dsimp only)); refine bx 3 37 #[.int .i64 a1_0, .int .i64 a1_1, .int .i64 a1_2, .int .i64 a1_3] ?_; intro gb145 hg w60 hbox hb; have BK145 := hbox; have GW145 := gs hg; have GE145 := gs hg; replace HB := bs hb; have NB144_145 := nl BK144 hg; have NB145_144 := ng BK144 hg; replace BK144 := nk BK144 hb; clear hb hbox hg) | ((with_reducible refine gate_dst (N := 4) rfl ?_); (try (refine gate_guard (by rfl) ?_; dsimp only)); refine bx 4 29 #[.int .i64 0, .slice none 0 0] ?_; intro gb146 hg w61 hbox hb; have BK146 := hbox; have GW146 := gs hg; have GE146 := gs hg; replace HB := bs hb; have NB144_146 := nl BK144 hg; have NB146_144 := ng BK144 hg; replace BK144 := nk BK144 hb; have NB145_146 := nl BK145 hg; have NB146_145 := ng BK145 hg; replace BK145 := nk BK145 hb; clear hb hbox hg; have hnb62 := NB144_145.out; have hnc62 := NB145_144.out; have hnb63 := NB144_146.out; have hnc63 := NB146_144.out; have hcz64_0 := bc BK144 0 (.int .i64 a0_0); have hcz64_1 := bc BK144 1 (.slice A0_1 l0_1.length c0_1); have hfz64_0 := blk_frozen BK144.out 0; have hfz64_1 := blk_frozen BK144.out 1) | ((with_reducible refine gate_callee (f := 19) rfl ?_); refine gl (some 7) Try.func19 #[.agg #[.int .i64 a0_0, .slice A0_1 l0_1.length c0_1]] ?_; (with_reducible refine (spec_pzGood.calls k a0_0 _ _ l0_1 false _ ?side1 ?side2 A3.out).mono ?_); (case side1 => repeat (first | exact (Kd.C_below HR0_1.out HB.out) | (with_reducible refine Kd.C_alloc ?_ _) | (with_reducible refine Kd.C_drewN ?_ _) | (with_reducible refine Kd.C_drew ?_))); (case side2 => exact HC0_1.out); rintro e w65 ⟨rfl, hb⟩; refine ⟨_, rfl, ?_⟩; replace BK144 := nk BK144 hb; replace BK145 := nk BK145 hb; replace BK146 := nk BK146 hb; replace HB := bs hb; (try clear hb); have hnb66 := NB146_145.out; have hnc66 := NB145_146.out; have hcz67_0 := bc BK146 0 (.int .i64 0); have hcz67_1 := bc BK146 1 (.slice none 0 0); have hfz67_0 := blk_frozen BK146.out 0; have hfz67_1 := blk_frozen BK146.out 1))
  refine bodyPost_ret (results_ct rfl _ _ gb146 29 #[.int .i64 0, .slice none 0 0] (0, 0) _ rfl (by (with_reducible repeat (first | refine blk_drewN ?_ _ | refine blk_drew ?_ | refine blk_alloc ?_ _)); refine blk_put (cs := #[.int .i64 0, .slice none 0 0]) ?_ 1 _ rfl; (with_reducible repeat (first | refine blk_drewN ?_ _ | refine blk_drew ?_ | refine blk_alloc ?_ _)); refine blk_put (cs := #[.int .i64 0, .slice none 0 0]) ?_ 0 _ rfl; (with_reducible repeat (first | refine blk_drewN ?_ _ | refine blk_drew ?_ | refine blk_alloc ?_ _)); exact BK146.out) Try.underlying29 rfl (by kernel_rfl)) rfl ?_
  exact ⟨_, rs, by first | exact Kd.R_nil _ _ _ _ _ | exact Kd.N_nil _ _ _ _ _ | exact Kd.V_nil _ _ _ _ _ | exact Kd.Q_nil _ _ _ _ _ | exact Kd.S_nil _ _ _ _ _, bw⟩

/-! ### impl_in: function 29 -/
def impl_in.f (a0 : Int) (a1 : Int) (a2 : Int) : Option (Bool) := if a1 ≤ a0 then (some (decide (a0 ≤ a2))) else (some false)
set_option maxHeartbeats 8000000 in
set_option maxRecDepth 100000 in
theorem impl_in.calls (a0 : Int) (a1 : Int) (a2 : Int) (r : Bool) (w : World) (h : impl_in.f a0 a1 a2 = some r) :
  Calls Try.prog 29 #[.int .i64 a0, .int .i64 a1, .int .i64 a2] w fun e w' => e = .returned (.bool r) ∧ Drawn0 w w' := by
 unfold impl_in.f at h
 have H := h
 clear h
 by_cases c4 : a1 ≤ a0
 ·rw [if_pos c4] at H
  have c4b0 : decide (a1 ≤ a0) = true := decide_eq_true c4
  clear c4
  obtain rfl := Option.some.inj H
  go_enter Try.func29, Try.ntmps29
  go_wp2
  go_ret
  exact ⟨rs, by repeat (first | exact Drawn0.refl _ | apply Drawn0.step)⟩
 ·rw [if_neg c4] at H
  have c4b0 : decide (a1 ≤ a0) = false := decide_eq_false c4
  clear c4
  obtain rfl := Option.some.inj H
  go_enter Try.func29, Try.ntmps29
  go_wp2
  go_ret
  exact ⟨rs, by repeat (first | exact Drawn0.refl _ | apply Drawn0.step)⟩

/-! ### impl_isHidden: function 32 -/
def impl_isHidden.f (a0 : Int) : Option (Bool) := (impl_in.f a0 1 8).bind fun t161 => (some t161)
set_option maxHeartbeats 8000000 in
set_option maxRecDepth 100000 in
theorem impl_isHidden.calls (a0 : Int) (r : Bool) (w : World) (h : impl_isHidden.f a0 = some r) :
  Calls Try.prog 32 #[.int .i64 a0] w fun e w' => e = .returned (.bool r) ∧ Drawn0 w w' := by
 unfold impl_isHidden.f at h
 have H := h
 clear h
 replace H := Option.bind_eq_some_iff.mp H
 obtain ⟨t161, A20, H⟩ := H
 (try dsimp only at H)
 have A2 := Aside0.mk A20
 clear A20
 obtain rfl := Option.some.inj H
 go_enter Try.func32, Try.ntmps32
 go_wp2_with (first | ((with_reducible refine gate_callee (f := 29) rfl ?_); refine gl (some 4) Try.func29 #[.int .i64 a0, .int .i64 1, .int .i64 8] ?_; (with_reducible refine (impl_in.calls a0 1 8 t161 _ A2.out).mono ?_); rintro e w' ⟨rfl, ⟨nd, rfl⟩⟩; refine ⟨_, rfl, ?_⟩))
 go_ret
 exact ⟨rs, by repeat (first | exact Drawn0.refl _ | apply Drawn0.step)⟩

-- NOT PRINTED: function 38 (impl_Clue_38)

-- NOT PRINTED: function 33 (impl_Clue_33)

/-! ### impl_isClue: function 35 -/
def impl_isClue.f (a0 : Int) (a1_0 : Int) (a1_1 : Int) (a1_2 : Int) (a1_3 : Int) : Option (Bool) := (impl_isHidden.f a0).bind fun t163 => (if t163 = true then (if a1_0 = 0 then ((impl_in.f a1_1 0 (wrap64 (a0 - 1))).bind fun t164 => (if t164 = true then ((impl_in.f a1_2 0 20).bind fun t165 => (if t165 = true then ((impl_in.f a1_3 0 1).bind fun t166 => (some t166)) else (some false))) else (some false))) else (if a1_0 = 1 then (if a1_1 = 0 then (if a1_2 = 0 then ((impl_in.f a1_3 0 a0).bind fun t167 => (some t167)) else (some false)) else (some false)) else (if a1_0 = 2 then (if a1_1 = 0 then (if a1_2 = 0 then ((impl_in.f a1_3 0 20).bind fun t168 => (some t168)) else (some false)) else (some false)) else (if a1_0 = 3 then (if a1_1 = 0 then (if a1_2 = 0 then ((impl_in.f a1_3 0 8).bind fun t169 => (some t169)) else (some false)) else (some false)) else (if a1_0 = 4 then ((impl_in.f a1_1 0 (wrap64 (a0 - 1))).bind fun t170 => (if t170 = true then (if a1_2 = 0 then ((impl_in.f a1_3 0 20).bind fun t171 => (some t171)) else (some false)) else (some false))) else (some false)))))) else (some false))
set_option maxHeartbeats 8000000 in
set_option maxRecDepth 100000 in
theorem impl_isClue.calls (a0 : Int) (a1_0 : Int) (a1_1 : Int) (a1_2 : Int) (a1_3 : Int) (r : Bool) (w : World) (h : impl_isClue.f a0 a1_0 a1_1 a1_2 a1_3 = some r) :
  Calls Try.prog 35 #[.int .i64 a0, .agg #[.int .i64 a1_0, .int .i64 a1_1, .int .i64 a1_2, .int .i64 a1_3]] w fun e w' => e = .returned (.bool r) ∧ Below w.heap.size w w' := by
 have hu37 := Try.underlying37
 have HB := Aside0.mk (Below.refl w.heap.size w)
 unfold impl_isClue.f at h
 have H := h
 clear h
 replace H := Option.bind_eq_some_iff.mp H
 obtain ⟨t163, A30, H⟩ := H
 (try dsimp only at H)
 have A3 := Aside0.mk A30
 clear A30
 by_cases c4 : t163 = true
 ·subst c4
  rw [if_pos rfl] at H
  by_cases c5 : a1_0 = 0
  ·rw [if_pos c5] at H
   have c5b0 : (a1_0 == 0) = true := beq_iff_eq.mpr c5
   have c5b1 : (a1_0 != 0) = false := bne_eq_false_iff_eq.mpr c5
   clear c5
   replace H := Option.bind_eq_some_iff.mp H
   obtain ⟨t164, A60, H⟩ := H
   (try dsimp only at H)
   have A6 := Aside0.mk A60
   clear A60
   by_cases c7 : t164 = true
   ·subst c7
    rw [if_pos rfl] at H
    replace H := Option.bind_eq_some_iff.mp H
    obtain ⟨t165, A80, H⟩ := H
    (try dsimp only at H)
    have A8 := Aside0.mk A80
    clear A80
    by_cases c9 : t165 = true
    ·subst c9
     rw [if_pos rfl] at H
     replace H := Option.bind_eq_some_iff.mp H
     obtain ⟨t166, A100, H⟩ := H
     (try dsimp only at H)
     have A10 := Aside0.mk A100
     clear A100
     obtain rfl := Option.some.inj H
     go_enter Try.func35, Try.ntmps35
     go_wp2_with (first | ((with_reducible refine gate_dst (N := 3) rfl ?_); refine bx 3 37 #[.int .i64 a1_0, .int .i64 a1_1, .int .i64 a1_2, .int .i64 a1_3] ?_; intro gb162 hg w11 hbox hb; have BK162 := hbox; have GW162 := gs hg; have GE162 := gs hg; replace HB := bs hb; clear hb hbox hg) | ((with_reducible refine gate_callee (f := 32) rfl ?_); refine gl (some 6) Try.func32 #[.int .i64 a0] ?_; (with_reducible refine (impl_isHidden.calls a0 true _ A3.out).mono ?_); rintro e w' ⟨rfl, ⟨nd, rfl⟩⟩; refine ⟨_, rfl, ?_⟩; have hcz12_0 := bc BK162 0 (.int .i64 a1_0); have hcz12_1 := bc BK162 1 (.int .i64 a1_1); have hcz12_2 := bc BK162 2 (.int .i64 a1_2); have hcz12_3 := bc BK162 3 (.int .i64 a1_3); have hfz12_0 := blk_frozen BK162.out 0; have hfz12_1 := blk_frozen BK162.out 1; have hfz12_2 := blk_frozen BK162.out 2; have hfz12_3 := blk_frozen BK162.out 3) | ((with_reducible refine gate_callee (f := 29) rfl ?_); refine gl (some 16) Try.func29 #[.int .i64 a1_1, .int .i64 0, .int .i64 (wrap64 (a0 - 1))] ?_; (with_reducible refine (impl_in.calls a1_1 0 (wrap64 (a0 - 1)) true _ A6.out).mono ?_); rintro e w' ⟨rfl, ⟨nd, rfl⟩⟩; refine ⟨_, rfl, ?_⟩) | (go_at_call 29; (with_reducible refine (impl_in.calls a1_2 0 20 true _ A8.out).mono ?_); rintro e w' ⟨rfl, ⟨nd, rfl⟩⟩) | (go_at_call 29; (with_reducible refine (impl_in.calls a1_3 0 1 t166 _ A10.out).mono ?_); rintro e w' ⟨rfl, ⟨nd, rfl⟩⟩))
     go_ret
     exact ⟨rs, bw⟩
    ·replace c9 := Bool.eq_false_iff.mpr c9
     subst c9
     rw [if_neg (show ¬ (false = true) by decide)] at H
     obtain rfl := Option.some.inj H
     go_enter Try.func35, Try.ntmps35
     go_wp2_with (first | ((with_reducible refine gate_dst (N := 3) rfl ?_); refine bx 3 37 #[.int .i64 a1_0, .int .i64 a1_1, .int .i64 a1_2, .int .i64 a1_3] ?_; intro gb162 hg w13 hbox hb; have BK162 := hbox; have GW162 := gs hg; have GE162 := gs hg; replace HB := bs hb; clear hb hbox hg) | ((with_reducible refine gate_callee (f := 32) rfl ?_); refine gl (some 6) Try.func32 #[.int .i64 a0] ?_; (with_reducible refine (impl_isHidden.calls a0 true _ A3.out).mono ?_); rintro e w' ⟨rfl, ⟨nd, rfl⟩⟩; refine ⟨_, rfl, ?_⟩; have hcz14_0 := bc BK162 0 (.int .i64 a1_0); have hcz14_1 := bc BK162 1 (.int .i64 a1_1); have hcz14_2 := bc BK162 2 (.int .i64 a1_2); have hcz14_3 := bc BK162 3 (.int .i64 a1_3); have hfz14_0 := blk_frozen BK162.out 0; have hfz14_1 := blk_frozen BK162.out 1; have hfz14_2 := blk_frozen BK162.out 2; have hfz14_3 := blk_frozen BK162.out 3) | ((with_reducible refine gate_callee (f := 29) rfl ?_); refine gl (some 16) Try.func29 #[.int .i64 a1_1, .int .i64 0, .int .i64 (wrap64 (a0 - 1))] ?_; (with_reducible refine (impl_in.calls a1_1 0 (wrap64 (a0 - 1)) true _ A6.out).mono ?_); rintro e w' ⟨rfl, ⟨nd, rfl⟩⟩; refine ⟨_, rfl, ?_⟩) | (go_at_call 29; (with_reducible refine (impl_in.calls a1_2 0 20 false _ A8.out).mono ?_); rintro e w' ⟨rfl, ⟨nd, rfl⟩⟩))
     go_ret
     exact ⟨rs, bw⟩
   ·replace c7 := Bool.eq_false_iff.mpr c7
    subst c7
    rw [if_neg (show ¬ (false = true) by decide)] at H
    obtain rfl := Option.some.inj H
    go_enter Try.func35, Try.ntmps35
    go_wp2_with (first | ((with_reducible refine gate_dst (N := 3) rfl ?_); refine bx 3 37 #[.int .i64 a1_0, .int .i64 a1_1, .int .i64 a1_2, .int .i64 a1_3] ?_; intro gb162 hg w15 hbox hb; have BK162 := hbox; have GW162 := gs hg; have GE162 := gs hg; replace HB := bs hb; clear hb hbox hg) | ((with_reducible refine gate_callee (f := 32) rfl ?_); refine gl (some 6) Try.func32 #[.int .i64 a0] ?_; (with_reducible refine (impl_isHidden.calls a0 true _ A3.out).mono ?_); rintro e w' ⟨rfl, ⟨nd, rfl⟩⟩; refine ⟨_, rfl, ?_⟩; have hcz16_0 := bc BK162 0 (.int .i64 a1_0); have hcz16_1 := bc BK162 1 (.int .i64 a1_1); have hcz16_2 := bc BK162 2 (.int .i64 a1_2); have hcz16_3 := bc BK162 3 (.int .i64 a1_3); have hfz16_0 := blk_frozen BK162.out 0; have hfz16_1 := blk_frozen BK162.out 1; have hfz16_2 := blk_frozen BK162.out 2; have hfz16_3 := blk_frozen BK162.out 3) | ((with_reducible refine gate_callee (f := 29) rfl ?_); refine gl (some 16) Try.func29 #[.int .i64 a1_1, .int .i64 0, .int .i64 (wrap64 (a0 - 1))] ?_; (with_reducible refine (impl_in.calls a1_1 0 (wrap64 (a0 - 1)) false _ A6.out).mono ?_); rintro e w' ⟨rfl, ⟨nd, rfl⟩⟩; refine ⟨_, rfl, ?_⟩))
    go_ret
    exact ⟨rs, bw⟩
  ·rw [if_neg c5] at H
   have c5b0 : (a1_0 == 0) = false := beq_eq_false_iff_ne.mpr c5
   have c5b1 : (a1_0 != 0) = true := bne_iff_ne.mpr c5
   by_cases c17 : a1_0 = 1
   ·rw [if_pos c17] at H
    have c17b0 : (a1_0 == 1) = true := beq_iff_eq.mpr c17
    have c17b1 : (a1_0 != 1) = false := bne_eq_false_iff_eq.mpr c17
    clear c17
    by_cases c18 : a1_1 = 0
    ·rw [if_pos c18] at H
     have c18b0 : (a1_1 == 0) = true := beq_iff_eq.mpr c18
     have c18b1 : (a1_1 != 0) = false := bne_eq_false_iff_eq.mpr c18
     clear c18
     by_cases c19 : a1_2 = 0
     ·rw [if_pos c19] at H
      have c19b0 : (a1_2 == 0) = true := beq_iff_eq.mpr c19
      have c19b1 : (a1_2 != 0) = false := bne_eq_false_iff_eq.mpr c19
      clear c19
      replace H := Option.bind_eq_some_iff.mp H
      obtain ⟨t167, A200, H⟩ := H
      (try dsimp only at H)
      have A20 := Aside0.mk A200
      clear A200
      obtain rfl := Option.some.inj H
      go_enter Try.func35, Try.ntmps35
      go_wp2_with (first | ((with_reducible refine gate_dst (N := 3) rfl ?_); refine bx 3 37 #[.int .i64 a1_0, .int .i64 a1_1, .int .i64 a1_2, .int .i64 a1_3] ?_; intro gb162 hg w21 hbox hb; have BK162 := hbox; have GW162 := gs hg; have GE162 := gs hg; replace HB := bs hb; clear hb hbox hg) | ((with_reducible refine gate_callee (f := 32) rfl ?_); refine gl (some 6) Try.func32 #[.int .i64 a0] ?_; (with_reducible refine (impl_isHidden.calls a0 true _ A3.out).mono ?_); rintro e w' ⟨rfl, ⟨nd, rfl⟩⟩; refine ⟨_, rfl, ?_⟩; have hcz22_0 := bc BK162 0 (.int .i64 a1_0); have hcz22_1 := bc BK162 1 (.int .i64 a1_1); have hcz22_2 := bc BK162 2 (.int .i64 a1_2); have hcz22_3 := bc BK162 3 (.int .i64 a1_3); have hfz22_0 := blk_frozen BK162.out 0; have hfz22_1 := blk_frozen BK162.out 1; have hfz22_2 := blk_frozen BK162.out 2; have hfz22_3 := blk_frozen BK162.out 3) | (go_at_call 29; (with_reducible refine (impl_in.calls a1_3 0 a0 t167 _ A20.out).mono ?_); rintro e w' ⟨rfl, ⟨nd, rfl⟩⟩))
      go_ret
      exact ⟨rs, bw⟩
     ·rw [if_neg c19] at H
      have c19b0 : (a1_2 == 0) = false := beq_eq_false_iff_ne.mpr c19
      have c19b1 : (a1_2 != 0) = true := bne_iff_ne.mpr c19
      obtain rfl := Option.some.inj H
      go_enter Try.func35, Try.ntmps35
      go_wp2_with (first | ((with_reducible refine gate_dst (N := 3) rfl ?_); refine bx 3 37 #[.int .i64 a1_0, .int .i64 a1_1, .int .i64 a1_2, .int .i64 a1_3] ?_; intro gb162 hg w23 hbox hb; have BK162 := hbox; have GW162 := gs hg; have GE162 := gs hg; replace HB := bs hb; clear hb hbox hg) | ((with_reducible refine gate_callee (f := 32) rfl ?_); refine gl (some 6) Try.func32 #[.int .i64 a0] ?_; (with_reducible refine (impl_isHidden.calls a0 true _ A3.out).mono ?_); rintro e w' ⟨rfl, ⟨nd, rfl⟩⟩; refine ⟨_, rfl, ?_⟩; have hcz24_0 := bc BK162 0 (.int .i64 a1_0); have hcz24_1 := bc BK162 1 (.int .i64 a1_1); have hcz24_2 := bc BK162 2 (.int .i64 a1_2); have hcz24_3 := bc BK162 3 (.int .i64 a1_3); have hfz24_0 := blk_frozen BK162.out 0; have hfz24_1 := blk_frozen BK162.out 1; have hfz24_2 := blk_frozen BK162.out 2; have hfz24_3 := blk_frozen BK162.out 3))
      go_ret
      exact ⟨rs, bw⟩
    ·rw [if_neg c18] at H
     have c18b0 : (a1_1 == 0) = false := beq_eq_false_iff_ne.mpr c18
     have c18b1 : (a1_1 != 0) = true := bne_iff_ne.mpr c18
     obtain rfl := Option.some.inj H
     go_enter Try.func35, Try.ntmps35
     go_wp2_with (first | ((with_reducible refine gate_dst (N := 3) rfl ?_); refine bx 3 37 #[.int .i64 a1_0, .int .i64 a1_1, .int .i64 a1_2, .int .i64 a1_3] ?_; intro gb162 hg w25 hbox hb; have BK162 := hbox; have GW162 := gs hg; have GE162 := gs hg; replace HB := bs hb; clear hb hbox hg) | ((with_reducible refine gate_callee (f := 32) rfl ?_); refine gl (some 6) Try.func32 #[.int .i64 a0] ?_; (with_reducible refine (impl_isHidden.calls a0 true _ A3.out).mono ?_); rintro e w' ⟨rfl, ⟨nd, rfl⟩⟩; refine ⟨_, rfl, ?_⟩; have hcz26_0 := bc BK162 0 (.int .i64 a1_0); have hcz26_1 := bc BK162 1 (.int .i64 a1_1); have hcz26_2 := bc BK162 2 (.int .i64 a1_2); have hcz26_3 := bc BK162 3 (.int .i64 a1_3); have hfz26_0 := blk_frozen BK162.out 0; have hfz26_1 := blk_frozen BK162.out 1; have hfz26_2 := blk_frozen BK162.out 2; have hfz26_3 := blk_frozen BK162.out 3))
     go_ret
     exact ⟨rs, bw⟩
   ·rw [if_neg c17] at H
    have c17b0 : (a1_0 == 1) = false := beq_eq_false_iff_ne.mpr c17
    have c17b1 : (a1_0 != 1) = true := bne_iff_ne.mpr c17
    by_cases c27 : a1_0 = 2
    ·rw [if_pos c27] at H
     have c27b0 : (a1_0 == 2) = true := beq_iff_eq.mpr c27
     have c27b1 : (a1_0 != 2) = false := bne_eq_false_iff_eq.mpr c27
     clear c27
     by_cases c28 : a1_1 = 0
     ·rw [if_pos c28] at H
      have c28b0 : (a1_1 == 0) = true := beq_iff_eq.mpr c28
      have c28b1 : (a1_1 != 0) = false := bne_eq_false_iff_eq.mpr c28
      clear c28
      by_cases c29 : a1_2 = 0
      ·rw [if_pos c29] at H
       have c29b0 : (a1_2 == 0) = true := beq_iff_eq.mpr c29
       have c29b1 : (a1_2 != 0) = false := bne_eq_false_iff_eq.mpr c29
       clear c29
       replace H := Option.bind_eq_some_iff.mp H
       obtain ⟨t168, A300, H⟩ := H
       (try dsimp only at H)
       have A30 := Aside0.mk A300
       clear A300
       obtain rfl := Option.some.inj H
       go_enter Try.func35, Try.ntmps35
       go_wp2_with (first | ((with_reducible refine gate_dst (N := 3) rfl ?_); refine bx 3 37 #[.int .i64 a1_0, .int .i64 a1_1, .int .i64 a1_2, .int .i64 a1_3] ?_; intro gb162 hg w31 hbox hb; have BK162 := hbox; have GW162 := gs hg; have GE162 := gs hg; replace HB := bs hb; clear hb hbox hg) | ((with_reducible refine gate_callee (f := 32) rfl ?_); refine gl (some 6) Try.func32 #[.int .i64 a0] ?_; (with_reducible refine (impl_isHidden.calls a0 true _ A3.out).mono ?_); rintro e w' ⟨rfl, ⟨nd, rfl⟩⟩; refine ⟨_, rfl, ?_⟩; have hcz32_0 := bc BK162 0 (.int .i64 a1_0); have hcz32_1 := bc BK162 1 (.int .i64 a1_1); have hcz32_2 := bc BK162 2 (.int .i64 a1_2); have hcz32_3 := bc BK162 3 (.int .i64 a1_3); have hfz32_0 := blk_frozen BK162.out 0; have hfz32_1 := blk_frozen BK162.out 1; have hfz32_2 := blk_frozen BK162.out 2; have hfz32_3 := blk_frozen BK162.out 3) | (go_at_call 29; (with_reducible refine (impl_in.calls a1_3 0 20 t168 _ A30.out).mono ?_); rintro e w' ⟨rfl, ⟨nd, rfl⟩⟩))
       go_ret
       exact ⟨rs, bw⟩
      ·rw [if_neg c29] at H
       have c29b0 : (a1_2 == 0) = false := beq_eq_false_iff_ne.mpr c29
       have c29b1 : (a1_2 != 0) = true := bne_iff_ne.mpr c29
       obtain rfl := Option.some.inj H
       go_enter Try.func35, Try.ntmps35
       go_wp2_with (first | ((with_reducible refine gate_dst (N := 3) rfl ?_); refine bx 3 37 #[.int .i64 a1_0, .int .i64 a1_1, .int .i64 a1_2, .int .i64 a1_3] ?_; intro gb162 hg w33 hbox hb; have BK162 := hbox; have GW162 := gs hg; have GE162 := gs hg; replace HB := bs hb; clear hb hbox hg) | ((with_reducible refine gate_callee (f := 32) rfl ?_); refine gl (some 6) Try.func32 #[.int .i64 a0] ?_; (with_reducible refine (impl_isHidden.calls a0 true _ A3.out).mono ?_); rintro e w' ⟨rfl, ⟨nd, rfl⟩⟩; refine ⟨_, rfl, ?_⟩; have hcz34_0 := bc BK162 0 (.int .i64 a1_0); have hcz34_1 := bc BK162 1 (.int .i64 a1_1); have hcz34_2 := bc BK162 2 (.int .i64 a1_2); have hcz34_3 := bc BK162 3 (.int .i64 a1_3); have hfz34_0 := blk_frozen BK162.out 0; have hfz34_1 := blk_frozen BK162.out 1; have hfz34_2 := blk_frozen BK162.out 2; have hfz34_3 := blk_frozen BK162.out 3))
       go_ret
       exact ⟨rs, bw⟩
     ·rw [if_neg c28] at H
      have c28b0 : (a1_1 == 0) = false := beq_eq_false_iff_ne.mpr c28
      have c28b1 : (a1_1 != 0) = true := bne_iff_ne.mpr c28
      obtain rfl := Option.some.inj H
      go_enter Try.func35, Try.ntmps35
      go_wp2_with (first | ((with_reducible refine gate_dst (N := 3) rfl ?_); refine bx 3 37 #[.int .i64 a1_0, .int .i64 a1_1, .int .i64 a1_2, .int .i64 a1_3] ?_; intro gb162 hg w35 hbox hb; have BK162 := hbox; have GW162 := gs hg; have GE162 := gs hg; replace HB := bs hb; clear hb hbox hg) | ((with_reducible refine gate_callee (f := 32) rfl ?_); refine gl (some 6) Try.func32 #[.int .i64 a0] ?_; (with_reducible refine (impl_isHidden.calls a0 true _ A3.out).mono ?_); rintro e w' ⟨rfl, ⟨nd, rfl⟩⟩; refine ⟨_, rfl, ?_⟩; have hcz36_0 := bc BK162 0 (.int .i64 a1_0); have hcz36_1 := bc BK162 1 (.int .i64 a1_1); have hcz36_2 := bc BK162 2 (.int .i64 a1_2); have hcz36_3 := bc BK162 3 (.int .i64 a1_3); have hfz36_0 := blk_frozen BK162.out 0; have hfz36_1 := blk_frozen BK162.out 1; have hfz36_2 := blk_frozen BK162.out 2; have hfz36_3 := blk_frozen BK162.out 3))
      go_ret
      exact ⟨rs, bw⟩
    ·rw [if_neg c27] at H
     have c27b0 : (a1_0 == 2) = false := beq_eq_false_iff_ne.mpr c27
     have c27b1 : (a1_0 != 2) = true := bne_iff_ne.mpr c27
     by_cases c37 : a1_0 = 3
     ·rw [if_pos c37] at H
      have c37b0 : (a1_0 == 3) = true := beq_iff_eq.mpr c37
      have c37b1 : (a1_0 != 3) = false := bne_eq_false_iff_eq.mpr c37
      clear c37
      by_cases c38 : a1_1 = 0
      ·rw [if_pos c38] at H
       have c38b0 : (a1_1 == 0) = true := beq_iff_eq.mpr c38
       have c38b1 : (a1_1 != 0) = false := bne_eq_false_iff_eq.mpr c38
       clear c38
       by_cases c39 : a1_2 = 0
       ·rw [if_pos c39] at H
        have c39b0 : (a1_2 == 0) = true := beq_iff_eq.mpr c39
        have c39b1 : (a1_2 != 0) = false := bne_eq_false_iff_eq.mpr c39
        clear c39
        replace H := Option.bind_eq_some_iff.mp H
        obtain ⟨t169, A400, H⟩ := H
        (try dsimp only at H)
        have A40 := Aside0.mk A400
        clear A400
        obtain rfl := Option.some.inj H
        go_enter Try.func35, Try.ntmps35
        go_wp2_with (first | ((with_reducible refine gate_dst (N := 3) rfl ?_); refine bx 3 37 #[.int .i64 a1_0, .int .i64 a1_1, .int .i64 a1_2, .int .i64 a1_3] ?_; intro gb162 hg w41 hbox hb; have BK162 := hbox; have GW162 := gs hg; have GE162 := gs hg; replace HB := bs hb; clear hb hbox hg) | ((with_reducible refine gate_callee (f := 32) rfl ?_); refine gl (some 6) Try.func32 #[.int .i64 a0] ?_; (with_reducible refine (impl_isHidden.calls a0 true _ A3.out).mono ?_); rintro e w' ⟨rfl, ⟨nd, rfl⟩⟩; refine ⟨_, rfl, ?_⟩; have hcz42_0 := bc BK162 0 (.int .i64 a1_0); have hcz42_1 := bc BK162 1 (.int .i64 a1_1); have hcz42_2 := bc BK162 2 (.int .i64 a1_2); have hcz42_3 := bc BK162 3 (.int .i64 a1_3); have hfz42_0 := blk_frozen BK162.out 0; have hfz42_1 := blk_frozen BK162.out 1; have hfz42_2 := blk_frozen BK162.out 2; have hfz42_3 := blk_frozen BK162.out 3) | (go_at_call 29; (with_reducible refine (impl_in.calls a1_3 0 8 t169 _ A40.out).mono ?_); rintro e w' ⟨rfl, ⟨nd, rfl⟩⟩))
        go_ret
        exact ⟨rs, bw⟩
       ·rw [if_neg c39] at H
        have c39b0 : (a1_2 == 0) = false := beq_eq_false_iff_ne.mpr c39
        have c39b1 : (a1_2 != 0) = true := bne_iff_ne.mpr c39
        obtain rfl := Option.some.inj H
        go_enter Try.func35, Try.ntmps35
        go_wp2_with (first | ((with_reducible refine gate_dst (N := 3) rfl ?_); refine bx 3 37 #[.int .i64 a1_0, .int .i64 a1_1, .int .i64 a1_2, .int .i64 a1_3] ?_; intro gb162 hg w43 hbox hb; have BK162 := hbox; have GW162 := gs hg; have GE162 := gs hg; replace HB := bs hb; clear hb hbox hg) | ((with_reducible refine gate_callee (f := 32) rfl ?_); refine gl (some 6) Try.func32 #[.int .i64 a0] ?_; (with_reducible refine (impl_isHidden.calls a0 true _ A3.out).mono ?_); rintro e w' ⟨rfl, ⟨nd, rfl⟩⟩; refine ⟨_, rfl, ?_⟩; have hcz44_0 := bc BK162 0 (.int .i64 a1_0); have hcz44_1 := bc BK162 1 (.int .i64 a1_1); have hcz44_2 := bc BK162 2 (.int .i64 a1_2); have hcz44_3 := bc BK162 3 (.int .i64 a1_3); have hfz44_0 := blk_frozen BK162.out 0; have hfz44_1 := blk_frozen BK162.out 1; have hfz44_2 := blk_frozen BK162.out 2; have hfz44_3 := blk_frozen BK162.out 3))
        go_ret
        exact ⟨rs, bw⟩
      ·rw [if_neg c38] at H
       have c38b0 : (a1_1 == 0) = false := beq_eq_false_iff_ne.mpr c38
       have c38b1 : (a1_1 != 0) = true := bne_iff_ne.mpr c38
       obtain rfl := Option.some.inj H
       go_enter Try.func35, Try.ntmps35
       go_wp2_with (first | ((with_reducible refine gate_dst (N := 3) rfl ?_); refine bx 3 37 #[.int .i64 a1_0, .int .i64 a1_1, .int .i64 a1_2, .int .i64 a1_3] ?_; intro gb162 hg w45 hbox hb; have BK162 := hbox; have GW162 := gs hg; have GE162 := gs hg; replace HB := bs hb; clear hb hbox hg) | ((with_reducible refine gate_callee (f := 32) rfl ?_); refine gl (some 6) Try.func32 #[.int .i64 a0] ?_; (with_reducible refine (impl_isHidden.calls a0 true _ A3.out).mono ?_); rintro e w' ⟨rfl, ⟨nd, rfl⟩⟩; refine ⟨_, rfl, ?_⟩; have hcz46_0 := bc BK162 0 (.int .i64 a1_0); have hcz46_1 := bc BK162 1 (.int .i64 a1_1); have hcz46_2 := bc BK162 2 (.int .i64 a1_2); have hcz46_3 := bc BK162 3 (.int .i64 a1_3); have hfz46_0 := blk_frozen BK162.out 0; have hfz46_1 := blk_frozen BK162.out 1; have hfz46_2 := blk_frozen BK162.out 2; have hfz46_3 := blk_frozen BK162.out 3))
       go_ret
       exact ⟨rs, bw⟩
     ·rw [if_neg c37] at H
      have c37b0 : (a1_0 == 3) = false := beq_eq_false_iff_ne.mpr c37
      have c37b1 : (a1_0 != 3) = true := bne_iff_ne.mpr c37
      by_cases c47 : a1_0 = 4
      ·rw [if_pos c47] at H
       have c47b0 : (a1_0 == 4) = true := beq_iff_eq.mpr c47
       have c47b1 : (a1_0 != 4) = false := bne_eq_false_iff_eq.mpr c47
       clear c47
       replace H := Option.bind_eq_some_iff.mp H
       obtain ⟨t170, A480, H⟩ := H
       (try dsimp only at H)
       have A48 := Aside0.mk A480
       clear A480
       by_cases c49 : t170 = true
       ·subst c49
        rw [if_pos rfl] at H
        by_cases c50 : a1_2 = 0
        ·rw [if_pos c50] at H
         have c50b0 : (a1_2 == 0) = true := beq_iff_eq.mpr c50
         have c50b1 : (a1_2 != 0) = false := bne_eq_false_iff_eq.mpr c50
         clear c50
         replace H := Option.bind_eq_some_iff.mp H
         obtain ⟨t171, A510, H⟩ := H
         (try dsimp only at H)
         have A51 := Aside0.mk A510
         clear A510
         obtain rfl := Option.some.inj H
         go_enter Try.func35, Try.ntmps35
         go_wp2_with (first | ((with_reducible refine gate_dst (N := 3) rfl ?_); refine bx 3 37 #[.int .i64 a1_0, .int .i64 a1_1, .int .i64 a1_2, .int .i64 a1_3] ?_; intro gb162 hg w52 hbox hb; have BK162 := hbox; have GW162 := gs hg; have GE162 := gs hg; replace HB := bs hb; clear hb hbox hg) | ((with_reducible refine gate_callee (f := 32) rfl ?_); refine gl (some 6) Try.func32 #[.int .i64 a0] ?_; (with_reducible refine (impl_isHidden.calls a0 true _ A3.out).mono ?_); rintro e w' ⟨rfl, ⟨nd, rfl⟩⟩; refine ⟨_, rfl, ?_⟩; have hcz53_0 := bc BK162 0 (.int .i64 a1_0); have hcz53_1 := bc BK162 1 (.int .i64 a1_1); have hcz53_2 := bc BK162 2 (.int .i64 a1_2); have hcz53_3 := bc BK162 3 (.int .i64 a1_3); have hfz53_0 := blk_frozen BK162.out 0; have hfz53_1 := blk_frozen BK162.out 1; have hfz53_2 := blk_frozen BK162.out 2; have hfz53_3 := blk_frozen BK162.out 3) | ((with_reducible refine gate_callee (f := 29) rfl ?_); refine gl (some 79) Try.func29 #[.int .i64 a1_1, .int .i64 0, .int .i64 (wrap64 (a0 - 1))] ?_; (with_reducible refine (impl_in.calls a1_1 0 (wrap64 (a0 - 1)) true _ A48.out).mono ?_); rintro e w' ⟨rfl, ⟨nd, rfl⟩⟩; refine ⟨_, rfl, ?_⟩) | (go_at_call 29; (with_reducible refine (impl_in.calls a1_3 0 20 t171 _ A51.out).mono ?_); rintro e w' ⟨rfl, ⟨nd, rfl⟩⟩))
         go_ret
         exact ⟨rs, bw⟩
        ·rw [if_neg c50] at H
         have c50b0 : (a1_2 == 0) = false := beq_eq_false_iff_ne.mpr c50
         have c50b1 : (a1_2 != 0) = true := bne_iff_ne.mpr c50
         obtain rfl := Option.some.inj H
         go_enter Try.func35, Try.ntmps35
         go_wp2_with (first | ((with_reducible refine gate_dst (N := 3) rfl ?_); refine bx 3 37 #[.int .i64 a1_0, .int .i64 a1_1, .int .i64 a1_2, .int .i64 a1_3] ?_; intro gb162 hg w54 hbox hb; have BK162 := hbox; have GW162 := gs hg; have GE162 := gs hg; replace HB := bs hb; clear hb hbox hg) | ((with_reducible refine gate_callee (f := 32) rfl ?_); refine gl (some 6) Try.func32 #[.int .i64 a0] ?_; (with_reducible refine (impl_isHidden.calls a0 true _ A3.out).mono ?_); rintro e w' ⟨rfl, ⟨nd, rfl⟩⟩; refine ⟨_, rfl, ?_⟩; have hcz55_0 := bc BK162 0 (.int .i64 a1_0); have hcz55_1 := bc BK162 1 (.int .i64 a1_1); have hcz55_2 := bc BK162 2 (.int .i64 a1_2); have hcz55_3 := bc BK162 3 (.int .i64 a1_3); have hfz55_0 := blk_frozen BK162.out 0; have hfz55_1 := blk_frozen BK162.out 1; have hfz55_2 := blk_frozen BK162.out 2; have hfz55_3 := blk_frozen BK162.out 3) | ((with_reducible refine gate_callee (f := 29) rfl ?_); refine gl (some 79) Try.func29 #[.int .i64 a1_1, .int .i64 0, .int .i64 (wrap64 (a0 - 1))] ?_; (with_reducible refine (impl_in.calls a1_1 0 (wrap64 (a0 - 1)) true _ A48.out).mono ?_); rintro e w' ⟨rfl, ⟨nd, rfl⟩⟩; refine ⟨_, rfl, ?_⟩))
         go_ret
         exact ⟨rs, bw⟩
       ·replace c49 := Bool.eq_false_iff.mpr c49
        subst c49
        rw [if_neg (show ¬ (false = true) by decide)] at H
        obtain rfl := Option.some.inj H
        go_enter Try.func35, Try.ntmps35
        go_wp2_with (first | ((with_reducible refine gate_dst (N := 3) rfl ?_); refine bx 3 37 #[.int .i64 a1_0, .int .i64 a1_1, .int .i64 a1_2, .int .i64 a1_3] ?_; intro gb162 hg w56 hbox hb; have BK162 := hbox; have GW162 := gs hg; have GE162 := gs hg; replace HB := bs hb; clear hb hbox hg) | ((with_reducible refine gate_callee (f := 32) rfl ?_); refine gl (some 6) Try.func32 #[.int .i64 a0] ?_; (with_reducible refine (impl_isHidden.calls a0 true _ A3.out).mono ?_); rintro e w' ⟨rfl, ⟨nd, rfl⟩⟩; refine ⟨_, rfl, ?_⟩; have hcz57_0 := bc BK162 0 (.int .i64 a1_0); have hcz57_1 := bc BK162 1 (.int .i64 a1_1); have hcz57_2 := bc BK162 2 (.int .i64 a1_2); have hcz57_3 := bc BK162 3 (.int .i64 a1_3); have hfz57_0 := blk_frozen BK162.out 0; have hfz57_1 := blk_frozen BK162.out 1; have hfz57_2 := blk_frozen BK162.out 2; have hfz57_3 := blk_frozen BK162.out 3) | ((with_reducible refine gate_callee (f := 29) rfl ?_); refine gl (some 79) Try.func29 #[.int .i64 a1_1, .int .i64 0, .int .i64 (wrap64 (a0 - 1))] ?_; (with_reducible refine (impl_in.calls a1_1 0 (wrap64 (a0 - 1)) false _ A48.out).mono ?_); rintro e w' ⟨rfl, ⟨nd, rfl⟩⟩; refine ⟨_, rfl, ?_⟩))
        go_ret
        exact ⟨rs, bw⟩
      ·rw [if_neg c47] at H
       have c47b0 : (a1_0 == 4) = false := beq_eq_false_iff_ne.mpr c47
       have c47b1 : (a1_0 != 4) = true := bne_iff_ne.mpr c47
       obtain rfl := Option.some.inj H
       go_enter Try.func35, Try.ntmps35
       go_wp2_with (first | ((with_reducible refine gate_dst (N := 3) rfl ?_); refine bx 3 37 #[.int .i64 a1_0, .int .i64 a1_1, .int .i64 a1_2, .int .i64 a1_3] ?_; intro gb162 hg w58 hbox hb; have BK162 := hbox; have GW162 := gs hg; have GE162 := gs hg; replace HB := bs hb; clear hb hbox hg) | ((with_reducible refine gate_callee (f := 32) rfl ?_); refine gl (some 6) Try.func32 #[.int .i64 a0] ?_; (with_reducible refine (impl_isHidden.calls a0 true _ A3.out).mono ?_); rintro e w' ⟨rfl, ⟨nd, rfl⟩⟩; refine ⟨_, rfl, ?_⟩; have hcz59_0 := bc BK162 0 (.int .i64 a1_0); have hcz59_1 := bc BK162 1 (.int .i64 a1_1); have hcz59_2 := bc BK162 2 (.int .i64 a1_2); have hcz59_3 := bc BK162 3 (.int .i64 a1_3); have hfz59_0 := blk_frozen BK162.out 0; have hfz59_1 := blk_frozen BK162.out 1; have hfz59_2 := blk_frozen BK162.out 2; have hfz59_3 := blk_frozen BK162.out 3))
       go_ret
       exact ⟨rs, bw⟩
 ·replace c4 := Bool.eq_false_iff.mpr c4
  subst c4
  rw [if_neg (show ¬ (false = true) by decide)] at H
  obtain rfl := Option.some.inj H
  go_enter Try.func35, Try.ntmps35
  go_wp2_with (first | ((with_reducible refine gate_dst (N := 3) rfl ?_); refine bx 3 37 #[.int .i64 a1_0, .int .i64 a1_1, .int .i64 a1_2, .int .i64 a1_3] ?_; intro gb162 hg w60 hbox hb; have BK162 := hbox; have GW162 := gs hg; have GE162 := gs hg; replace HB := bs hb; clear hb hbox hg) | ((with_reducible refine gate_callee (f := 32) rfl ?_); refine gl (some 6) Try.func32 #[.int .i64 a0] ?_; (with_reducible refine (impl_isHidden.calls a0 false _ A3.out).mono ?_); rintro e w' ⟨rfl, ⟨nd, rfl⟩⟩; refine ⟨_, rfl, ?_⟩))
  go_ret
  exact ⟨rs, bw⟩

-- NOT PRINTED: function 34 (impl_isPuzzle_1)

end Go.Proofs.Ytphfbldnoinanaa.PFnExactAddClue
