-- Laid by xprint, a program of this session that runs over the kit's print.
import Derived.Test.YthjbmojacgkdcaaGreatDoorPFnRowsHiddenx16
namespace Go.Proofs.YthjbmojacgkdcaaGreatDoor.PFnRowsHidden
open Go.RowKit Go.Proofs.YthjbmojacgkdcaaGreatDoorW.PrintWords Go.Proofs.YthjbmojacgkdcaaGreatDoorW.PrintLast Go.Proofs.YthjbmojacgkdcaaGreatDoorW.PrintMore Go.Proofs.YthjbmojacgkdcaaGreatDoor.Sq
attribute [local go_sem] max2_int min2_int max_two min_two max_three min_three max_four min_four   -- for this text's walks alone
set_option linter.unusedVariables false
set_option linter.unusedSimpArgs false

/-! ### spec_AddClue: function 24 -/
def spec_AddClue.f (k : Nat) (a0_0 : Int) (l0_1 : List (S37)) (a1_0 : Int) (a1_1 : Int) (a1_2 : Int) (a1_3 : Int) : Option (Int × (List (S37)) × Bool) := (spec_pzGood.f k a0_0 l0_1).bind fun t525 => (if t525 = true then ((spec_pzClue.f a0_0 a1_0 a1_1 a1_2 a1_3).bind fun t526 => (if t526 = true then (if (l0_1.length : Int) = 6 then (some (0, ([] : List (S37)), false)) else ((some (([] : List (S37)) : List (S37))).bind fun y527 => (if y527.length + l0_1.length < 4398046511104 then ((some (y527 ++ l0_1 : List (S37))).bind fun y530 => ((some (([(⟨a1_0, a1_1, a1_2, a1_3⟩ : S37)] : List (S37)) : List (S37))).bind fun y533 => (if y530.length + y533.length < 4398046511104 then (some (a0_0, (y530 ++ y533), true)) else (none)))) else (none)))) else (some (0, ([] : List (S37)), false)))) else (some (0, ([] : List (S37)), false)))
theorem spec_AddClue.mono : ∀ a0 a1 a2 a3 a4 a5 k, LeO (spec_AddClue.f k a0 a1 a2 a3 a4 a5) (spec_AddClue.f (k + 1) a0 a1 a2 a3 a4 a5) := by
  intro a0 a1 a2 a3 a4 a5 k
  unfold spec_AddClue.f
  repeat' first
      | (with_reducible exact spec_pzGood.mono _ _ _)
      | (with_reducible exact LeO.refl _)
      | (with_reducible exact LeO.none _)
      | (with_reducible refine LeO.ite ?_ ?_)
      | (with_reducible refine LeO.bind ?_ (fun _ => ?_))
      | exact spec_pzGood.mono _ _ _
      | exact LeO.none _
      | refine LeO.ite ?_ ?_
      | refine LeO.bind ?_ (fun _ => ?_)
def spec_AddClue.T3 : Bool × List (List Nat × List Nat) := (true, [([], []), ([0], [0]), ([], []), ([], []), ([3], [3]), ([2, 4], [2, 4]), ([], []), ([6], [6]), ([5, 7, 5], [5, 7]), ([1, 8], [1, 8]), ([9, 8, 0, 1, 2, 3, 4, 5, 6, 7, 8, 9], [9]), ([10, 0, 1, 2, 3, 4, 5, 6, 7, 8, 9, 10], [])])
def spec_AddClue.B3 : List Nat := [0, 1, 0, 0, 8, 28, 0, 64, 252, 511, 1023, 2047]
theorem spec_AddClue.tab3 : rtab .any (opsOf Tryz.f24 3) = spec_AddClue.T3 := by kernel_rfl
theorem spec_AddClue.bits3 : waitsOk spec_AddClue.T3.2 spec_AddClue.B3 = true := by kernel_rfl
set_option maxHeartbeats 8000000 in
set_option maxRecDepth 100000 in
theorem spec_AddClue.calls (k : Nat) (a0_0 : Int) (A0_1 : Option Addr) (c0_1 : Nat) (l0_1 : List (S37)) (a1_0 : Int) (a1_1 : Int) (a1_2 : Int) (a1_3 : Int) (r1 : Int) (r2 : List (S37)) (r3 : Bool) (w : World) (hr0_1 : Kd.C k37 w A0_1 l0_1.length l0_1) (hc0_1 : l0_1.length ≤ c0_1) (h : spec_AddClue.f k a0_0 l0_1 a1_0 a1_1 a1_2 a1_3 = some (r1, r2, r3)) :
  Calls Tryz.prog 24 #[.agg #[.int .i64 a0_0, .slice A0_1 l0_1.length c0_1], .agg #[.int .i64 a1_0, .int .i64 a1_1, .int .i64 a1_2, .int .i64 a1_3]] w fun e w' => ∃ v1_ : Value, e = .returned (.tuple #[.agg #[.int .i64 r1, v1_], .bool r3]) ∧ Kd.R k37 37 w' w.heap.size (fun _ => True) v1_ r2 ∧ Below w.heap.size w w' := by
 have hu28 := Tryz.underlying28
 have hu37 := Tryz.underlying37
 have HR0_1 := Aside0.mk hr0_1
 have HC0_1 := Aside0.mk hc0_1
 clear hr0_1 hc0_1
 have HB := Aside0.mk (Below.refl w.heap.size w)
 unfold spec_AddClue.f at h
 have H := h
 clear h
 obtain ⟨t525, A3, H⟩ := ob H
 (try dsimp only at H)
 go_enter Tryz.func24, Tryz.ntmps24
 go_wp2_with (first | ((with_reducible refine gd 2 ?_); (try (refine gate_guard (by rfl) ?_; dsimp only)); refine bx 2 28 #[.int .i64 a0_0, .slice A0_1 l0_1.length c0_1] ?_; intro gb522 hg w8 hbox hb; have BK522 := hbox; have GW522 := gs hg; have GE522 := gs hg; replace HB := bs hb; clear hb hbox hg) | ((with_reducible refine gd 3 ?_); (try (refine gate_guard (by rfl) ?_; dsimp only)); refine bx 3 37 #[.int .i64 a1_0, .int .i64 a1_1, .int .i64 a1_2, .int .i64 a1_3] ?_; intro gb523 hg w9 hbox hb; have BK523 := hbox; have GW523 := gs hg; have GE523 := gs hg; replace HB := bs hb; have ⟨NB522_523, NB523_522⟩ := nn BK522 hg; replace BK522 := nk BK522 hb; clear hb hbox hg; refine halt ?_))
 by_cases c4 : t525 = true
 ·subst c4
  rw [if_pos rfl] at H
  obtain ⟨t526, A5, H⟩ := ob H
  (try dsimp only at H)
  refine Aside0.mk ?_
  try go_wp2_with (((with_reducible refine gd 4 ?_); (try (refine gate_guard (by rfl) ?_; dsimp only)); refine bx 4 28 #[.int .i64 0, .slice none 0 0] ?_; intro gb524 hg w10 hbox hb; have BK524 := hbox; have GW524 := gs hg; have GE524 := gs hg; replace HB := bs hb; have ⟨NB522_524, NB524_522⟩ := nn BK522 hg; replace BK522 := nk BK522 hb; have ⟨NB523_524, NB524_523⟩ := nn BK523 hg; replace BK523 := nk BK523 hb; clear hb hbox hg; have hnb11 := nb NB522_523; have hnb12 := nb NB522_524; obtain ⟨hcz13_0, hcz13_1, hfz13_0, hfz13_1⟩ := z2 BK522; refine halt ?_))
  by_cases c6 : t526 = true
  ·subst c6
   rw [if_pos rfl] at H
   refine Aside0.mk ?_
   try go_wp2_with (((with_reducible refine gc 61 ?_); refine gl (some 7) Tryz.func61 #[.agg #[.int .i64 a0_0, .slice A0_1 l0_1.length c0_1]] ?_; (with_reducible refine (spec_pzGood.calls k a0_0 _ _ l0_1 true _ ?_ ?_ A3.out).mono ?_); exact cb HR0_1; exact HC0_1.out; rintro e w14 ⟨rfl, hb⟩; refine ⟨_, rfl, ?_⟩; replace BK522 := nk BK522 hb; replace BK523 := nk BK523 hb; replace BK524 := nk BK524 hb; replace HB := bs hb; (try clear hb); have hz15 := z2 BK522; have hnb16 := nb NB523_524; have hz17 := z4 BK523; refine halt ?_))
   by_cases c7 : (l0_1.length : Int) = 6
   ·rw [if_pos c7] at H
    have c7b0 : ((l0_1.length : Int) == 6) = true := beq_iff_eq.mpr c7
    have c7b1 : ((l0_1.length : Int) != 6) = false := bne_eq_false_iff_eq.mpr c7
    clear c7
    simp only [Option.some.injEq, Prod.mk.injEq] at H
    obtain ⟨rfl, rfl, rfl⟩ := H
    refine Aside0.mk ?_
    try go_wp2_with ((go_at_call 65; (with_reducible refine (spec_pzClue.calls a0_0 a1_0 a1_1 a1_2 a1_3 true _ A5.out).mono ?_); rintro e w18 ⟨rfl, hb⟩; replace BK522 := nk BK522 hb; replace BK524 := nk BK524 hb; replace HB := bs hb; (try clear hb); have hz19 := z2 BK522; have hz20 := z2 BK524))
    refine bodyPost_ret (results_ct rfl _ _ gb524 28 #[.int .i64 0, .slice none 0 0] (0, 0) _ rfl (pz BK524) Tryz.underlying28 rfl (by kernel_rfl)) rfl ?_
    exact ⟨_, rs, by first | exact Kd.R_nil _ _ _ _ _ | exact Kd.N_nil _ _ _ _ _ | exact Kd.V_nil _ _ _ _ _ | exact Kd.Q_nil _ _ _ _ _ | exact Kd.S_nil _ _ _ _ _, bw⟩
   rw [if_neg c7] at H
   have c7b0 : ((l0_1.length : Int) == 6) = false := beq_eq_false_iff_ne.mpr c7
   have c7b1 : ((l0_1.length : Int) != 6) = true := bne_iff_ne.mpr c7
   obtain ⟨y527, hy527⟩ : ∃ y_ : List (S37), y_ = (([] : List (S37))) := ⟨_, rfl⟩
   replace H : (if y527.length + l0_1.length < 4398046511104 then ((some (y527 ++ l0_1 : List (S37))).bind fun y530 => ((some (([(⟨a1_0, a1_1, a1_2, a1_3⟩ : S37)] : List (S37)) : List (S37))).bind fun y533 => (if y530.length + y533.length < 4398046511104 then (some (a0_0, (y530 ++ y533), true)) else (none)))) else (none)) = some (r1, r2, r3) := by first | (rw [hy527]; with_reducible exact H) | (have H2_ := (Option.bind_some _ _).symm.trans H; rw [hy527]; with_reducible exact H2_) | (have H2_ := (Option.bind_some _ _).symm.trans H; with_reducible exact H2_) | with_reducible exact H | (rw [hy527]; exact H) | exact H
   have Ny527 := Aside0.mk hy527
   clear hy527
   obtain ⟨c21, H⟩ := oi H
   have LMc21 := Aside0.mk c21
   clear c21
   obtain ⟨y530, hy530⟩ : ∃ y_ : List (S37), y_ = (y527 ++ l0_1) := ⟨_, rfl⟩
   replace H : ((some (([(⟨a1_0, a1_1, a1_2, a1_3⟩ : S37)] : List (S37)) : List (S37))).bind fun y533 => (if y530.length + y533.length < 4398046511104 then (some (a0_0, (y530 ++ y533), true)) else (none))) = some (r1, r2, r3) := by first | (rw [hy530]; with_reducible exact H) | (have H2_ := (Option.bind_some _ _).symm.trans H; rw [hy530]; with_reducible exact H2_) | (have H2_ := (Option.bind_some _ _).symm.trans H; with_reducible exact H2_) | with_reducible exact H | (rw [hy530]; exact H) | exact H
   have Ny530 := Aside0.mk hy530
   clear hy530
   obtain ⟨y533, hy533⟩ : ∃ y_ : List (S37), y_ = (([(⟨a1_0, a1_1, a1_2, a1_3⟩ : S37)] : List (S37))) := ⟨_, rfl⟩
   replace H : (if y530.length + y533.length < 4398046511104 then (some (a0_0, (y530 ++ y533), true)) else (none)) = some (r1, r2, r3) := by first | (rw [hy533]; with_reducible exact H) | (have H2_ := (Option.bind_some _ _).symm.trans H; rw [hy533]; with_reducible exact H2_) | (have H2_ := (Option.bind_some _ _).symm.trans H; with_reducible exact H2_) | with_reducible exact H | (rw [hy533]; exact H) | exact H
   have Ny533 := Aside0.mk hy533
   clear hy533
   obtain ⟨c22, H⟩ := oi H
   have LMc22 := Aside0.mk c22
   clear c22
   obtain ⟨y536, hy536⟩ : ∃ y_ : List (S37), y_ = (y530 ++ y533) := ⟨_, rfl⟩
   replace H : (some (a0_0, y536, true)) = some (r1, r2, r3) := by first | (rw [hy536]; with_reducible exact H) | (have H2_ := (Option.bind_some _ _).symm.trans H; rw [hy536]; with_reducible exact H2_) | (have H2_ := (Option.bind_some _ _).symm.trans H; with_reducible exact H2_) | with_reducible exact H | (rw [hy536]; exact H) | exact H
   have Ny536 := Aside0.mk hy536
   clear hy536
   simp only [Option.some.injEq, Prod.mk.injEq] at H
   obtain ⟨rfl, rfl, rfl⟩ := H
   refine Aside0.mk ?_
   try go_wp2_with ((go_at_call 65; (with_reducible refine (spec_pzClue.calls a0_0 a1_0 a1_1 a1_2 a1_3 true _ A5.out).mono ?_); rintro e w33 ⟨rfl, hb⟩; replace BK522 := nk BK522 hb; replace BK523 := nk BK523 hb; replace BK524 := nk BK524 hb; replace HB := bs hb; (try clear hb); have hz34 := z2 BK522))
   replace BK522 := Aside0.mk (blk_drew BK522.out)
   replace BK523 := Aside0.mk (blk_drew BK523.out)
   replace BK524 := Aside0.mk (blk_drew BK524.out)
   replace HB := Aside0.mk (below_drew1 HB.out)
   refine start_ (n := 12) (S := fun w' => w'.cell? ⟨gb522, 0, none⟩ = some (.int .i64 a0_0) ∧ w'.cell? ⟨gb522, 1, none⟩ = some (.slice A0_1 l0_1.length c0_1) ∧ w'.cell? ⟨gb523, 0, none⟩ = some (.int .i64 a1_0) ∧ w'.cell? ⟨gb523, 1, none⟩ = some (.int .i64 a1_1) ∧ w'.cell? ⟨gb523, 2, none⟩ = some (.int .i64 a1_2) ∧ w'.cell? ⟨gb523, 3, none⟩ = some (.int .i64 a1_3)) (ds := []) (tb 12 0) (by kernel_rfl) rfl rfl ⟨ec BK522, ec BK522, ec BK523, ec BK523, ec BK523, ec BK523⟩ (fun hHeld => ?_); refine with_tabW spec_AddClue.tab3 spec_AddClue.bits3 (fun HT_ HW_ => ?_)
   generalize w33.drew = w35 at BK522 BK523 BK524 HB hHeld ⊢
   refine pu 0 (some 23) (tb 12 1) ?_
   refine pu 3 (some 26) (tb 12 9) ?_
   refine tk 1 (some 24) (tb 12 11) hHeld ?_
   refine tk 4 (some 27) (tb 12 27) hHeld ?_
   refine tk 6 (some 29) (tb 12 91) hHeld ?_
   refine join_ (σ := Value × Value × Value) 4 (tb 12 255) (fun s_ => [(25, s_.1), (28, s_.2.1), (30, s_.2.2)]) (fun s_ w' => (w'.cell? ⟨gb522, 0, none⟩ = some (.int .i64 a0_0) ∧ w'.cell? ⟨gb522, 1, none⟩ = some (.slice A0_1 l0_1.length c0_1) ∧ w'.cell? ⟨gb523, 0, none⟩ = some (.int .i64 a1_0) ∧ w'.cell? ⟨gb523, 1, none⟩ = some (.int .i64 a1_1) ∧ w'.cell? ⟨gb523, 2, none⟩ = some (.int .i64 a1_2) ∧ w'.cell? ⟨gb523, 3, none⟩ = some (.int .i64 a1_3)) ∧ (Kd.R k37 37 w' w.heap.size (fun k_ => some k_ ≠ (s_.2.2 : Value).ownBlock ∧ k_ ≠ gb523) s_.2.1 y530) ∧ (Kd.R k37 37 w' w.heap.size (fun k_ => some k_ ≠ (s_.2.1 : Value).ownBlock ∧ k_ ≠ gb523) s_.2.2 y533) ∧ (w'.heap[gb522]? = some (.cells #[.int .i64 a0_0, .slice A0_1 l0_1.length c0_1] 28 (0, 0))) ∧ (w'.heap[gb523]? = some (.cells #[.int .i64 a1_0, .int .i64 a1_1, .int .i64 a1_2, .int .i64 a1_3] 37 (0, 0))) ∧ (w'.heap[gb524]? = some (.cells #[.int .i64 0, .slice none 0 0] 28 (0, 0))) ∧ (Below w.heap.size w w')) ?_ ?_
   rotate_left
   ·intro hCont
    refine two_ (i := 2) (j := 7) (Ni := some 25) (Nj := some 30) (tb 12 95) (tb 12 219) rfl rfl rfl rfl (two_of HT_.out (by kernel_rfl)) (by decide) (by decide) (fun K hK => ?_) (fun K hK => ?_)
    ·skip
     refine Kd.R_lit_step k37 _ 37 ?hg (N := 25) ?hd (xs := ([] : List (S37))) (inner := []) (ok := fun _ => True) (okp := fun _ => True) ?hr ?hp (fun _ hk => hk) trivial (Below.refl _ _) (Nat.le_refl _) (by simp) ?_; (case hd => rfl); (case hg => rfl); (case hr => first | (go_simp; done) | (go_simp; rfl)); (case hp => exact (Reps.none _ _))
     intro v528 w36 ho37 hb hg_ hnew_
     clear hg_ hnew_
     (first | rw [← Ny527.out] at ho37 | (simp only [Int.reduceToNat] at ho37; rw [← Ny527.out] at ho37))
     have HO529 := Aside0.mk (Kd.R_lower (Kd.R_newB ho37 (pk BK523)) (below_size bw))
     replace BK522 := nk BK522 hb
     replace BK523 := nk BK523 hb
     replace BK524 := nk BK524 hb
     replace HB := bs hb
     clear hb ho37
     refine hK.out _ _ ⟨ec BK522, ec BK522, ec BK523, ec BK523, ec BK523, ec BK523⟩ (fun hHeld => ?_)
     clear hK K
     refine nm (some 25) ?_
     refine two_ (i := 5) (j := 7) (Ni := some 28) (Nj := some 30) (tb 12 127) (tb 12 223) rfl rfl rfl rfl (two_of HT_.out (by kernel_rfl)) (by decide) (by decide) (fun K hK => ?_) (fun K hK => ?_)
     ·skip
      refine Kd.R_append_rows_step k37 (w0 := w) w.heap.size (by rfl) (.tmp 25) (.tmp 27) 26 37 (.agg #[(.int .i64 0), (.int .i64 0), (.int .i64 0), (.int .i64 0)]) 32 rfl Tryz.underlying26 info37 rfl (by decide) (by omega) v528 y527 l0_1 _ _ _ (fun k_ => k_ ≠ gb523) (fun _ => False) rfl rfl ?aO ?aR (fun _ _ h => h) (fun _ h => h.elim) ?aF ?aB ?aS ?aL ?_
      (case aR => exact cb HR0_1)
      (case aB => exact bw)
      (case aF => exact (fun k_ hk => Kd.freshB (pk BK523) k_ hk))
      (case aO => exact (by (with_reducible repeat (first | apply Kd.R_alloc | apply Kd.R_drewN | apply Kd.R_drew)); exact Kd.R_mono HO529.out (fun _ hk => hk.2)))
      (case aS => exact (below_size bw))
      (case aL => have := LMc21.out; omega)
      intro v531 w38 ho hb hg hat
      rw [← Ny530.out] at ho
      have n0_ := Aside0.mk (blk_grown (pk BK522) hg (Kd.R_ne HO529.out BK522.out (by decide)))
      have n1_ := Aside0.mk (blk_grown (pk BK523) hg (Kd.R_away HO529.out (fun _ hk => hk.2)))
      have n2_ := Aside0.mk (blk_grown (pk BK524) hg (Kd.R_ne HO529.out BK524.out (by decide)))
      have n3_ := Aside0.mk (hb)
      have n4_ := Aside0.mk (ho)
      clear BK522
      clear BK523
      clear BK524
      clear HB
      clear HO529
      have BK522 := n0_
      have BK523 := n1_
      have BK524 := n2_
      have HB := n3_
      have HO532 := n4_
      clear n0_ n1_ n2_ n3_ n4_
      clear ho hb hg hat
      refine hK.out _ _ ⟨ec BK522, ec BK522, ec BK523, ec BK523, ec BK523, ec BK523⟩ (fun hHeld => ?_)
      clear hK K
      refine nm (some 28) ?_
      refine one_ (i := 7) (N := some 30) (tb 12 255) rfl rfl (one_of HT_.out (by kernel_rfl)) (by decide) (fun K hK => ?_)
      refine Kd.R_lit_step k37 _ 37 ?hg (N := 30) ?hd (xs := ([(⟨a1_0, a1_1, a1_2, a1_3⟩ : S37)] : List (S37))) (inner := [.int .i64 a1_0, .int .i64 a1_1, .int .i64 a1_2, .int .i64 a1_3]) (ok := fun _ => True) (okp := fun _ => True) ?hr ?hp (fun _ hk => hk) trivial (Below.refl _ _) (Nat.le_refl _) (by simp) ?_; (case hd => rfl); (case hg => rfl); (case hr => first | (go_simp; done) | (go_simp; rfl)); (case hp => exact (Reps.c4 (show Kd.M k37 _ _ _ (⟨a1_0, a1_1, a1_2, a1_3⟩ : S37) [.int .i64 a1_0, .int .i64 a1_1, .int .i64 a1_2, .int .i64 a1_3] from (k37_mkM _ _ _ (⟨a1_0, a1_1, a1_2, a1_3⟩ : S37) )) (Reps.none _ _)))
      intro v534 w39 ho40 hb hg_ hnew_
      clear hg_ hnew_
      (first | rw [← Ny533.out] at ho40 | (simp only [Int.reduceToNat] at ho40; rw [← Ny533.out] at ho40))
      have HO535 := Aside0.mk (Kd.R_lower (Kd.R_newB (Kd.R_new' ho40 (Kd.R_lt (pr HO532))) (pk BK523)) (below_size bw))
      replace HO532 := re HO532 ho40 hb
      replace BK522 := nk BK522 hb
      replace BK523 := nk BK523 hb
      replace BK524 := nk BK524 hb
      replace HB := bs hb
      clear hb ho40
      refine hK.out _ _ ⟨ec BK522, ec BK522, ec BK523, ec BK523, ec BK523, ec BK523⟩ (fun hHeld => ?_)
      clear hK K
      refine nm (some 30) ?_
      exact norm_ (by simp only [putAll, Act.put, List.setIfInBounds_toArray, List.set_cons_zero, List.set_cons_succ]) (hCont (v528, v531, v534) _ ⟨hHeld, (by (with_reducible repeat (first | apply Kd.R_alloc | apply Kd.R_drewN | apply Kd.R_drew)); exact Kd.R_mono HO532.out (fun _ hk => ⟨hk.2, hk.1⟩)), (by (with_reducible repeat (first | apply Kd.R_alloc | apply Kd.R_drewN | apply Kd.R_drew)); exact Kd.R_mono HO535.out (fun _ hk => ⟨hk.1.2, hk.2⟩)), (pk BK522), (pk BK523), (pk BK524), bw⟩)
     ·skip
      refine Kd.R_lit_step k37 _ 37 ?hg (N := 30) ?hd (xs := ([(⟨a1_0, a1_1, a1_2, a1_3⟩ : S37)] : List (S37))) (inner := [.int .i64 a1_0, .int .i64 a1_1, .int .i64 a1_2, .int .i64 a1_3]) (ok := fun _ => True) (okp := fun _ => True) ?hr ?hp (fun _ hk => hk) trivial (Below.refl _ _) (Nat.le_refl _) (by simp) ?_; (case hd => rfl); (case hg => rfl); (case hr => first | (go_simp; done) | (go_simp; rfl)); (case hp => exact (Reps.c4 (show Kd.M k37 _ _ _ (⟨a1_0, a1_1, a1_2, a1_3⟩ : S37) [.int .i64 a1_0, .int .i64 a1_1, .int .i64 a1_2, .int .i64 a1_3] from (k37_mkM _ _ _ (⟨a1_0, a1_1, a1_2, a1_3⟩ : S37) )) (Reps.none _ _)))
      intro v534 w38 ho39 hb hg_ hnew_
      clear hg_ hnew_
      (first | rw [← Ny533.out] at ho39 | (simp only [Int.reduceToNat] at ho39; rw [← Ny533.out] at ho39))
      have HO535 := Aside0.mk (Kd.R_lower (Kd.R_newB (Kd.R_new' ho39 (Kd.R_lt (pr HO529))) (pk BK523)) (below_size bw))
      replace HO529 := re HO529 ho39 hb
      replace BK522 := nk BK522 hb
      replace BK523 := nk BK523 hb
      replace BK524 := nk BK524 hb
      replace HB := bs hb
      clear hb ho39
      refine hK.out _ _ ⟨ec BK522, ec BK522, ec BK523, ec BK523, ec BK523, ec BK523⟩ (fun hHeld => ?_)
      clear hK K
      refine nm (some 30) ?_
      refine one_ (i := 5) (N := some 28) (tb 12 255) rfl rfl (one_of HT_.out (by kernel_rfl)) (by decide) (fun K hK => ?_)
      refine Kd.R_append_rows_step k37 (w0 := w) w.heap.size (by rfl) (.tmp 25) (.tmp 27) 26 37 (.agg #[(.int .i64 0), (.int .i64 0), (.int .i64 0), (.int .i64 0)]) 32 rfl Tryz.underlying26 info37 rfl (by decide) (by omega) v528 y527 l0_1 _ _ _ (fun k_ => some k_ ≠ (v534 : Value).ownBlock ∧ k_ ≠ gb523) (fun _ => False) rfl rfl ?aO ?aR (fun _ _ h => h) (fun _ h => h.elim) ?aF ?aB ?aS ?aL ?_
      (case aR => exact cb HR0_1)
      (case aB => exact bw)
      (case aF => exact (fun k_ hk => ⟨Kd.fresh' (Kd.R_lt (pr HO535)) k_ hk, Kd.freshB (pk BK523) k_ hk⟩))
      (case aO => exact (by (with_reducible repeat (first | apply Kd.R_alloc | apply Kd.R_drewN | apply Kd.R_drew)); exact Kd.R_mono HO529.out (fun _ hk => ⟨hk.2, hk.1.2⟩)))
      (case aS => exact (below_size bw))
      (case aL => have := LMc21.out; omega)
      intro v531 w40 ho hb hg hat
      rw [← Ny530.out] at ho
      have n0_ := Aside0.mk (blk_grown (pk BK522) hg (Kd.R_ne HO529.out BK522.out (by decide)))
      have n1_ := Aside0.mk (blk_grown (pk BK523) hg (Kd.R_away HO529.out (fun _ hk => hk.1.2)))
      have n2_ := Aside0.mk (blk_grown (pk BK524) hg (Kd.R_ne HO529.out BK524.out (by decide)))
      have n3_ := Aside0.mk (Kd.R_after (ok := (fun k_ => k_ ≠ gb523)) (by (with_reducible repeat (first | apply Kd.R_alloc | apply Kd.R_drewN | apply Kd.R_drew)); exact Kd.R_mono HO535.out (fun _ hk => ⟨hk.2, hk.1.2⟩)) hg hat)
      have n4_ := Aside0.mk (hb)
      have n5_ := Aside0.mk (ho)
      clear BK522
      clear BK523
      clear BK524
      clear HO535
      clear HB
      clear HO529
      have BK522 := n0_
      have BK523 := n1_
      have BK524 := n2_
      have HO535 := n3_
      have HB := n4_
      have HO532 := n5_
      clear n0_ n1_ n2_ n3_ n4_ n5_
      clear ho hb hg hat
      refine hK.out _ _ ⟨ec BK522, ec BK522, ec BK523, ec BK523, ec BK523, ec BK523⟩ (fun hHeld => ?_)
      clear hK K
      refine nm (some 28) ?_
      exact norm_ (by simp only [putAll, Act.put, List.setIfInBounds_toArray, List.set_cons_zero, List.set_cons_succ]) (hCont (v528, v531, v534) _ ⟨hHeld, (pr HO532), (by (with_reducible repeat (first | apply Kd.R_alloc | apply Kd.R_drewN | apply Kd.R_drew)); exact Kd.R_mono HO535.out (fun _ hk => ⟨hk.2, hk.1⟩)), (pk BK522), (pk BK523), (pk BK524), bw⟩)
    ·skip
     refine Kd.R_lit_step k37 _ 37 ?hg (N := 30) ?hd (xs := ([(⟨a1_0, a1_1, a1_2, a1_3⟩ : S37)] : List (S37))) (inner := [.int .i64 a1_0, .int .i64 a1_1, .int .i64 a1_2, .int .i64 a1_3]) (ok := fun _ => True) (okp := fun _ => True) ?hr ?hp (fun _ hk => hk) trivial (Below.refl _ _) (Nat.le_refl _) (by simp) ?_; (case hd => rfl); (case hg => rfl); (case hr => first | (go_simp; done) | (go_simp; rfl)); (case hp => exact (Reps.c4 (show Kd.M k37 _ _ _ (⟨a1_0, a1_1, a1_2, a1_3⟩ : S37) [.int .i64 a1_0, .int .i64 a1_1, .int .i64 a1_2, .int .i64 a1_3] from (k37_mkM _ _ _ (⟨a1_0, a1_1, a1_2, a1_3⟩ : S37) )) (Reps.none _ _)))
     intro v534 w36 ho37 hb hg_ hnew_
     clear hg_ hnew_
     (first | rw [← Ny533.out] at ho37 | (simp only [Int.reduceToNat] at ho37; rw [← Ny533.out] at ho37))
     have HO535 := Aside0.mk (Kd.R_lower (Kd.R_newB ho37 (pk BK523)) (below_size bw))
     replace BK522 := nk BK522 hb
     replace BK523 := nk BK523 hb
     replace BK524 := nk BK524 hb
     replace HB := bs hb
     clear hb ho37
     refine hK.out _ _ ⟨ec BK522, ec BK522, ec BK523, ec BK523, ec BK523, ec BK523⟩ (fun hHeld => ?_)
     clear hK K
     refine nm (some 30) ?_
     refine one_ (i := 2) (N := some 25) (tb 12 223) rfl rfl (one_of HT_.out (by kernel_rfl)) (by decide) (fun K hK => ?_)
     refine Kd.R_lit_step k37 _ 37 ?hg (N := 25) ?hd (xs := ([] : List (S37))) (inner := []) (ok := fun _ => True) (okp := fun _ => True) ?hr ?hp (fun _ hk => hk) trivial (Below.refl _ _) (Nat.le_refl _) (by simp) ?_; (case hd => rfl); (case hg => rfl); (case hr => first | (go_simp; done) | (go_simp; rfl)); (case hp => exact (Reps.none _ _))
     intro v528 w38 ho39 hb hg_ hnew_
     clear hg_ hnew_
     (first | rw [← Ny527.out] at ho39 | (simp only [Int.reduceToNat] at ho39; rw [← Ny527.out] at ho39))
     have HO529 := Aside0.mk (Kd.R_lower (Kd.R_newB (Kd.R_new' ho39 (Kd.R_lt (pr HO535))) (pk BK523)) (below_size bw))
     replace HO535 := re HO535 ho39 hb
     replace BK522 := nk BK522 hb
     replace BK523 := nk BK523 hb
     replace BK524 := nk BK524 hb
     replace HB := bs hb
     clear hb ho39
     refine hK.out _ _ ⟨ec BK522, ec BK522, ec BK523, ec BK523, ec BK523, ec BK523⟩ (fun hHeld => ?_)
     clear hK K
     refine nm (some 25) ?_
     refine one_ (i := 5) (N := some 28) (tb 12 255) rfl rfl (one_of HT_.out (by kernel_rfl)) (by decide) (fun K hK => ?_)
     refine Kd.R_append_rows_step k37 (w0 := w) w.heap.size (by rfl) (.tmp 25) (.tmp 27) 26 37 (.agg #[(.int .i64 0), (.int .i64 0), (.int .i64 0), (.int .i64 0)]) 32 rfl Tryz.underlying26 info37 rfl (by decide) (by omega) v528 y527 l0_1 _ _ _ (fun k_ => some k_ ≠ (v534 : Value).ownBlock ∧ k_ ≠ gb523) (fun _ => False) rfl rfl ?aO ?aR (fun _ _ h => h) (fun _ h => h.elim) ?aF ?aB ?aS ?aL ?_
     (case aR => exact cb HR0_1)
     (case aB => exact bw)
     (case aF => exact (fun k_ hk => ⟨Kd.fresh' (Kd.R_lt (pr HO535)) k_ hk, Kd.freshB (pk BK523) k_ hk⟩))
     (case aO => exact (by (with_reducible repeat (first | apply Kd.R_alloc | apply Kd.R_drewN | apply Kd.R_drew)); exact Kd.R_mono HO529.out (fun _ hk => ⟨hk.1.2, hk.2⟩)))
     (case aS => exact (below_size bw))
     (case aL => have := LMc21.out; omega)
     intro v531 w40 ho hb hg hat
     rw [← Ny530.out] at ho
     have n0_ := Aside0.mk (blk_grown (pk BK522) hg (Kd.R_ne HO529.out BK522.out (by decide)))
     have n1_ := Aside0.mk (blk_grown (pk BK523) hg (Kd.R_away HO529.out (fun _ hk => hk.2)))
     have n2_ := Aside0.mk (blk_grown (pk BK524) hg (Kd.R_ne HO529.out BK524.out (by decide)))
     have n3_ := Aside0.mk (Kd.R_after (ok := (fun k_ => k_ ≠ gb523)) (by (with_reducible repeat (first | apply Kd.R_alloc | apply Kd.R_drewN | apply Kd.R_drew)); exact Kd.R_mono HO535.out (fun _ hk => ⟨hk.1.2, hk.2⟩)) hg hat)
     have n4_ := Aside0.mk (hb)
     have n5_ := Aside0.mk (ho)
     clear BK522
     clear BK523
     clear BK524
     clear HO535
     clear HB
     clear HO529
     have BK522 := n0_
     have BK523 := n1_
     have BK524 := n2_
     have HO535 := n3_
     have HB := n4_
     have HO532 := n5_
     clear n0_ n1_ n2_ n3_ n4_ n5_
     clear ho hb hg hat
     refine hK.out _ _ ⟨ec BK522, ec BK522, ec BK523, ec BK523, ec BK523, ec BK523⟩ (fun hHeld => ?_)
     clear hK K
     refine nm (some 28) ?_
     exact norm_ (by simp only [putAll, Act.put, List.setIfInBounds_toArray, List.set_cons_zero, List.set_cons_succ]) (hCont (v528, v531, v534) _ ⟨hHeld, (pr HO532), (by (with_reducible repeat (first | apply Kd.R_alloc | apply Kd.R_drewN | apply Kd.R_drew)); exact Kd.R_mono HO535.out (fun _ hk => ⟨hk.2, hk.1⟩)), (pk BK522), (pk BK523), (pk BK524), bw⟩)
   rintro ⟨v528, v531, v534⟩ w41 ⟨hS_, h0_, h1_, h2_, h3_, h4_, h5_⟩
   have n0_ : Aside0 (Kd.R k37 37 w41 w.heap.size (fun k_ => some k_ ≠ (v534 : Value).ownBlock ∧ k_ ≠ gb523) v531 y530) := ⟨h0_⟩
   have n1_ : Aside0 (Kd.R k37 37 w41 w.heap.size (fun k_ => some k_ ≠ (v531 : Value).ownBlock ∧ k_ ≠ gb523) v534 y533) := ⟨h1_⟩
   have n2_ : Aside0 (w41.heap[gb522]? = some (.cells #[.int .i64 a0_0, .slice A0_1 l0_1.length c0_1] 28 (0, 0))) := ⟨h2_⟩
   have n3_ : Aside0 (w41.heap[gb523]? = some (.cells #[.int .i64 a1_0, .int .i64 a1_1, .int .i64 a1_2, .int .i64 a1_3] 37 (0, 0))) := ⟨h3_⟩
   have n4_ : Aside0 (w41.heap[gb524]? = some (.cells #[.int .i64 0, .slice none 0 0] 28 (0, 0))) := ⟨h4_⟩
   have n5_ : Aside0 (Below w.heap.size w w41) := ⟨h5_⟩
   clear BK522
   clear BK523
   clear BK524
   clear HB
   clear h0_ h1_ h2_ h3_ h4_ h5_
   have HO532 := n0_
   have HO535 := n1_
   have BK522 := n2_
   have BK523 := n3_
   have BK524 := n4_
   have HB := n5_
   clear n0_ n1_ n2_ n3_ n4_ n5_
   have hHeld : w41.cell? ⟨gb522, 0, none⟩ = some (.int .i64 a0_0) ∧ w41.cell? ⟨gb522, 1, none⟩ = some (.slice A0_1 l0_1.length c0_1) ∧ w41.cell? ⟨gb523, 0, none⟩ = some (.int .i64 a1_0) ∧ w41.cell? ⟨gb523, 1, none⟩ = some (.int .i64 a1_1) ∧ w41.cell? ⟨gb523, 2, none⟩ = some (.int .i64 a1_2) ∧ w41.cell? ⟨gb523, 3, none⟩ = some (.int .i64 a1_3) := hS_
   obtain ⟨Ao43, co43, eo43⟩ := Kd.R_slice HO535.out
   (first | subst eo43 | (injection eo43 with f1_ f2_ f3_; have f4_ := f1_.symm; have f5_ := f3_.symm; clear f1_ f2_ f3_; subst f4_; subst f5_))
   refine norm_ (a' := ?_) ?_ ?_
   rotate_left
   ·simp only [putAll, Act.put, List.setIfInBounds_toArray, List.set_cons_zero, List.set_cons_succ]
    rfl
   refine one_ (i := 8) (N := some 31) (tb 12 511) rfl rfl (one_of HT_.out (by kernel_rfl)) (by decide) (fun K hK => ?_)
   refine Kd.R_append_rows_step k37 (w0 := w) w.heap.size (by rfl) (.tmp 28) (.tmp 30) 26 37 (.agg #[(.int .i64 0), (.int .i64 0), (.int .i64 0), (.int .i64 0)]) 32 rfl Tryz.underlying26 info37 rfl (by decide) (by omega) v531 y530 y533 _ _ _ (fun k_ => some k_ ≠ (.slice Ao43 y533.length co43 : Value).ownBlock ∧ k_ ≠ gb523) (fun _ => False) rfl rfl ?aO ?aR (fun _ _ h => h) (fun _ h => h.elim) ?aF ?aB ?aS ?aL ?_
   (case aR => exact rr HO535)
   (case aB => exact bw)
   (case aF => exact (fun k_ hk => ⟨Kd.fresh' (Kd.R_lt (pr HO535)) k_ hk, Kd.freshB (pk BK523) k_ hk⟩))
   (case aO => exact (pr HO532))
   (case aS => exact (below_size bw))
   (case aL => have := LMc22.out; omega)
   intro v537 w42 ho hb hg hat
   rw [← Ny536.out] at ho
   have n0_ := Aside0.mk (blk_grown (pk BK522) hg (Kd.R_ne HO532.out BK522.out (by decide)))
   have n1_ := Aside0.mk (blk_grown (pk BK523) hg (Kd.R_away HO532.out (fun _ hk => hk.2)))
   have n2_ := Aside0.mk (blk_grown (pk BK524) hg (Kd.R_ne HO532.out BK524.out (by decide)))
   have n3_ := Aside0.mk (Kd.R_after (ok := (fun k_ => k_ ≠ gb523)) (by (with_reducible repeat (first | apply Kd.R_alloc | apply Kd.R_drewN | apply Kd.R_drew)); exact Kd.R_mono HO535.out (fun _ hk => ⟨hk.2, hk.1⟩)) hg hat)
   have n4_ := Aside0.mk (hb)
   have n5_ := Aside0.mk (ho)
   clear BK522
   clear BK523
   clear BK524
   clear HO535
   clear HB
   clear HO532
   have BK522 := n0_
   have BK523 := n1_
   have BK524 := n2_
   have HO535 := n3_
   have HB := n4_
   have HO538 := n5_
   clear n0_ n1_ n2_ n3_ n4_ n5_
   clear ho hb hg hat
   obtain ⟨Ao44, co44, eo44⟩ := Kd.R_slice HO538.out
   (first | subst eo44 | (injection eo44 with f1_ f2_ f3_; have f4_ := f1_.symm; have f5_ := f3_.symm; clear f1_ f2_ f3_; subst f4_; subst f5_))
   refine hK.out _ _ ⟨ec BK522, ec BK522, ec BK523, ec BK523, ec BK523, ec BK523⟩ (fun hHeld => ?_)
   clear hK K
   refine nm (some 31) ?_
   refine pu 9 (some 32) (tb 12 1023) ?_
   refine one_ (i := 10) (N := none) (tb 12 2047) rfl rfl (one_of HT_.out (by kernel_rfl)) (by decide) (fun K hK => ?_)
   have hs45 : w42.cell? ⟨gb524, 0, none⟩ = some (.int .i64 0) := ec BK524
   have hfs45 := blk_frozen BK524.out 0
   have hns45_0 := NB522_524.out
   have hns45_1 := NB523_524.out
   have hms45_0 := NB524_522.out
   have hms45_1 := NB524_523.out
   have hs46 : w42.cell? ⟨gb524, 1, none⟩ = some (.slice none 0 0) := ec BK524
   have hfs46 := blk_frozen BK524.out 1
   have hns46_0 := NB522_524.out
   have hns46_1 := NB523_524.out
   have hms46_0 := NB524_522.out
   have hms46_1 := NB524_523.out
   refine skip_ (w1 := ?_) (by rfl) rfl ?_ ?_
   rotate_left
   ·go_simp
    rfl
   refine hK.out _ _ ⟨((cell_far (p := ⟨gb524, _, none⟩) NB522_524.out _).trans (((cell_far (p := ⟨gb524, _, none⟩) NB522_524.out _).trans (hHeld.1)))), ((cell_far (p := ⟨gb524, _, none⟩) NB522_524.out _).trans (((cell_far (p := ⟨gb524, _, none⟩) NB522_524.out _).trans (hHeld.2.1)))), ((cell_far (p := ⟨gb524, _, none⟩) NB523_524.out _).trans (((cell_far (p := ⟨gb524, _, none⟩) NB523_524.out _).trans (hHeld.2.2.1)))), ((cell_far (p := ⟨gb524, _, none⟩) NB523_524.out _).trans (((cell_far (p := ⟨gb524, _, none⟩) NB523_524.out _).trans (hHeld.2.2.2.1)))), ((cell_far (p := ⟨gb524, _, none⟩) NB523_524.out _).trans (((cell_far (p := ⟨gb524, _, none⟩) NB523_524.out _).trans (hHeld.2.2.2.2.1)))), ((cell_far (p := ⟨gb524, _, none⟩) NB523_524.out _).trans (((cell_far (p := ⟨gb524, _, none⟩) NB523_524.out _).trans (hHeld.2.2.2.2.2))))⟩ (fun hHeld => ?_)
   clear hK K
   refine pu 11 (some 5) (tb 12 4095) ?_
   refine done_ (done_of HT_.out (by kernel_rfl)) ?_
   try go_wp2
   refine bodyPost_ret (results_ct rfl _ _ gb524 28 #[.int .i64 a0_0, .slice Ao44 y536.length co44] (0, 0) _ rfl (pz BK524) Tryz.underlying28 rfl (by kernel_rfl)) rfl ?_
   exact ⟨_, rs, by (with_reducible repeat (first | apply Kd.R_alloc | apply Kd.R_drewN | apply Kd.R_drew)); exact Kd.R_mono (Kd.R_far (p := ⟨gb524, 1, none⟩) (Kd.R_far (p := ⟨gb524, 0, none⟩) (Kd.R_types HO538.out BK524.out (by decide)) (fun _ hk => hk.2) (.int .i64 a0_0)) (fun _ hk => hk.2) (.slice Ao44 y536.length co44)) (fun _ hk => trivial), bw⟩
  replace c6 := Bool.eq_false_iff.mpr c6
  subst c6
  rw [if_neg (show ¬ (false = true) by decide)] at H
  simp only [Option.some.injEq, Prod.mk.injEq] at H
  obtain ⟨rfl, rfl, rfl⟩ := H
  refine Aside0.mk ?_
  try go_wp2_with (first | ((with_reducible refine gc 61 ?_); refine gl (some 7) Tryz.func61 #[.agg #[.int .i64 a0_0, .slice A0_1 l0_1.length c0_1]] ?_; (with_reducible refine (spec_pzGood.calls k a0_0 _ _ l0_1 true _ ?_ ?_ A3.out).mono ?_); exact cb HR0_1; exact HC0_1.out; rintro e w53 ⟨rfl, hb⟩; refine ⟨_, rfl, ?_⟩; replace BK522 := nk BK522 hb; replace BK523 := nk BK523 hb; replace BK524 := nk BK524 hb; replace HB := bs hb; (try clear hb); have hz54 := z2 BK522; have hnb55 := nb NB523_524; have hz56 := z4 BK523) | (go_at_call 65; (with_reducible refine (spec_pzClue.calls a0_0 a1_0 a1_1 a1_2 a1_3 false _ A5.out).mono ?_); rintro e w57 ⟨rfl, hb⟩; replace BK524 := nk BK524 hb; replace HB := bs hb; (try clear hb); have hz58 := z2 BK524))
  refine bodyPost_ret (results_ct rfl _ _ gb524 28 #[.int .i64 0, .slice none 0 0] (0, 0) _ rfl (pz BK524) Tryz.underlying28 rfl (by kernel_rfl)) rfl ?_
  exact ⟨_, rs, by first | exact Kd.R_nil _ _ _ _ _ | exact Kd.N_nil _ _ _ _ _ | exact Kd.V_nil _ _ _ _ _ | exact Kd.Q_nil _ _ _ _ _ | exact Kd.S_nil _ _ _ _ _, bw⟩
 replace c4 := Bool.eq_false_iff.mpr c4
 subst c4
 rw [if_neg (show ¬ (false = true) by decide)] at H
 simp only [Option.some.injEq, Prod.mk.injEq] at H
 obtain ⟨rfl, rfl, rfl⟩ := H
 refine Aside0.mk ?_
 try go_wp2_with (first | ((with_reducible refine gd 4 ?_); (try (refine gate_guard (by rfl) ?_; dsimp only)); refine bx 4 28 #[.int .i64 0, .slice none 0 0] ?_; intro gb524 hg w61 hbox hb; have BK524 := hbox; have GW524 := gs hg; have GE524 := gs hg; replace HB := bs hb; have ⟨NB522_524, NB524_522⟩ := nn BK522 hg; replace BK522 := nk BK522 hb; clear hb hbox hg; have hnb62 := nb NB522_524; have hz63 := z2 BK522) | ((with_reducible refine gc 61 ?_); refine gl (some 7) Tryz.func61 #[.agg #[.int .i64 a0_0, .slice A0_1 l0_1.length c0_1]] ?_; (with_reducible refine (spec_pzGood.calls k a0_0 _ _ l0_1 false _ ?_ ?_ A3.out).mono ?_); exact cb HR0_1; exact HC0_1.out; rintro e w64 ⟨rfl, hb⟩; refine ⟨_, rfl, ?_⟩; replace BK524 := nk BK524 hb; replace HB := bs hb; (try clear hb); have hz65 := z2 BK524))
 refine bodyPost_ret (results_ct rfl _ _ gb524 28 #[.int .i64 0, .slice none 0 0] (0, 0) _ rfl (pz BK524) Tryz.underlying28 rfl (by kernel_rfl)) rfl ?_
 exact ⟨_, rs, by first | exact Kd.R_nil _ _ _ _ _ | exact Kd.N_nil _ _ _ _ _ | exact Kd.V_nil _ _ _ _ _ | exact Kd.Q_nil _ _ _ _ _ | exact Kd.S_nil _ _ _ _ _, bw⟩

/-! ### spec_DrawDropClue: function 25 -/
def spec_DrawDropClue.f (k : Nat) (l0 : List Int) : Option (Int × (List (S37)) × Int) := (spec_l1Cur_puzzle.f k l0 0 0).bind fun bt541 => ((spec_l1Cur_pick.f l0 bt541.2.2.1 bt541.2.2.2 6).bind fun bt547 => ((spec_l1Cur_pick.f l0 bt547.2.1 bt547.2.2 9).bind fun bt550 => (some (bt541.1, bt541.2.1, wrap64 (bt547.1 - (wrap64 (Int.tdiv bt550.1 8)))))))
theorem spec_DrawDropClue.mono : ∀ a0 k, LeO (spec_DrawDropClue.f k a0) (spec_DrawDropClue.f (k + 1) a0) := by
  intro a0 k
  unfold spec_DrawDropClue.f
  repeat' first
      | (with_reducible exact spec_l1Cur_puzzle.mono _ _ _ _)
      | (with_reducible exact LeO.refl _)
      | (with_reducible exact LeO.none _)
      | (with_reducible refine LeO.ite ?_ ?_)
      | (with_reducible refine LeO.bind ?_ (fun _ => ?_))
      | exact spec_l1Cur_puzzle.mono _ _ _ _
      | exact LeO.none _
      | refine LeO.ite ?_ ?_
      | refine LeO.bind ?_ (fun _ => ?_)
set_option maxHeartbeats 8000000 in
set_option maxRecDepth 100000 in
theorem spec_DrawDropClue.calls (k : Nat) (A0 : Option Addr) (c0 : Nat) (l0 : List Int) (r1 : Int) (r2 : List (S37)) (r3 : Int) (w : World) (hr0 : Kd.C (Kd.int .u8) w A0 l0.length l0) (hc0 : l0.length ≤ c0) (h : spec_DrawDropClue.f k l0 = some (r1, r2, r3)) :
  Calls Tryz.prog 25 #[.slice A0 l0.length c0] w fun e w' => ∃ v1_ : Value, e = .returned (.tuple #[.agg #[.int .i64 r1, v1_], .int .i64 r3]) ∧ Kd.R k37 37 w' w.heap.size (fun _ => True) v1_ r2 ∧ Below w.heap.size w w' := by
 have hu28 := Tryz.underlying28
 have hu66 := Tryz.underlying66
 have HR0 := Aside0.mk hr0
 have HC0 := Aside0.mk hc0
 clear hr0 hc0
 have HB := Aside0.mk (Below.refl w.heap.size w)
 unfold spec_DrawDropClue.f at h
 have H := h
 clear h
 obtain ⟨⟨t541, t542, t545, t546⟩, A2, H⟩ := ob H
 (try dsimp only at H)
 obtain ⟨⟨t547, t548, t549⟩, A3, H⟩ := ob H
 (try dsimp only at H)
 obtain ⟨⟨t550, t551, t552⟩, A4, H⟩ := ob H
 (try dsimp only at H)
 simp only [Option.some.injEq, Prod.mk.injEq] at H
 obtain ⟨rfl, rfl, rfl⟩ := H
 go_enter Tryz.func25, Tryz.ntmps25
 go_wp2_with (first | ((with_reducible refine gd 2 ?_); refine bx 2 28 #[.int .i64 0, .slice none 0 0] ?_; intro gb539 hg w5 hbox hb; have BK539 := hbox; have GW539 := gs hg; have GE539 := gs hg; replace HB := bs hb; clear hb hbox hg) | ((with_reducible refine gd 7 ?_); refine box_event ?hg (N := 7) ?hd (cs := #[.slice A0 l0.length c0, .int .i64 0, .int .u64 0]) (t := 66) ?hr ?_; (case hd => rfl); (case hg => rfl); (case hr => first | (go_simp; done) | (go_simp; rfl)); intro gb540 hg w6 hbox hb; have GW540 := gs hg; have GE540 := gs hg; have ⟨NB539_540, NB540_539⟩ := nn BK539 hg; replace BK539 := nk BK539 hb; have HI540 := Aside0.mk ((show IsS66 w _ gb540 l0 0 0 from ⟨_, _, hbox, (by rw [hg]; exact (below_size bw)), HR0.out⟩)); replace HB := bs hb; clear hb hbox hg) | ((with_reducible refine gc 56 ?_); refine gl (some 9) Tryz.func56 #[.pointer (some ⟨gb540, 0, none⟩)] ?_; (with_reducible refine (spec_l1Cur_puzzle.calls k gb540 l0 0 0 t541 t542 t545 t546 w _ ?_ ?_ A2.out).mono ?_); exact hi66; exact hb66; rintro e w7 ⟨v543, rfl, ho0, hi, hb, hk⟩; refine ⟨_, rfl, ?_⟩; replace BK539 := kb hk BK539 NB539_540; have HO544 := Aside0.mk (Kd.R_lower ho0 (below_size hb66)); replace HB := Aside0.mk (hb); replace HI540 := Aside0.mk (hi); (try clear hb); (try clear ho0)) | ((with_reducible refine gc 37 ?_); refine gl (some 11) Tryz.func37 #[.pointer (some ⟨gb540, 0, none⟩), .int .i64 6] ?_; (with_reducible refine (spec_l1Cur_pick.calls gb540 l0 t545 t546 6 t547 t548 t549 w _ ?_ ?_ A3.out).mono ?_); exact hi66; exact hb66; rintro e w8 ⟨rfl, hi, hb, hk⟩; refine ⟨_, rfl, ?_⟩; replace BK539 := kb hk BK539 NB539_540; replace HO544 := Aside0.mk (Kd.R_mono (Kd.R_keep (IsS66.apart (show IsS66 w _ gb540 l0 t545 t546 from hi66) (pr HO544) (by decide)) hk (fun _ h => h.2)) (fun _ h => h.1)); replace HB := Aside0.mk (hb); replace HI540 := Aside0.mk (hi); (try clear hb)) | ((with_reducible refine gc 37 ?_); refine gl (some 13) Tryz.func37 #[.pointer (some ⟨gb540, 0, none⟩), .int .i64 9] ?_; (with_reducible refine (spec_l1Cur_pick.calls gb540 l0 t548 t549 9 t550 t551 t552 w _ ?_ ?_ A4.out).mono ?_); exact hi66; exact hb66; rintro e w9 ⟨rfl, hi, hb, hk⟩; refine ⟨_, rfl, ?_⟩; replace BK539 := kb hk BK539 NB539_540; replace HO544 := Aside0.mk (Kd.R_mono (Kd.R_keep (IsS66.apart (show IsS66 w _ gb540 l0 t548 t549 from hi66) (pr HO544) (by decide)) hk (fun _ h => h.2)) (fun _ h => h.1)); replace HB := Aside0.mk (hb); replace HI540 := Aside0.mk (hi); (try clear hb); have hnb10 := NB539_540.out; have hnc10 := NB540_539.out; obtain ⟨hcz11_0, hcz11_1, hfz11_0, hfz11_1⟩ := z2 BK539; obtain ⟨Ao12, co12, eo12⟩ := Kd.R_slice HO544.out; subst eo12))
 refine bodyPost_ret (results_ct rfl _ _ gb539 28 #[.int .i64 t541, .slice Ao12 t542.length co12] (0, 0) _ rfl (pz BK539) Tryz.underlying28 rfl (by kernel_rfl)) rfl ?_
 exact ⟨_, rs, by (with_reducible repeat (first | apply Kd.R_alloc | apply Kd.R_drewN | apply Kd.R_drew)); exact Kd.R_mono (Kd.R_far (p := ⟨gb539, 1, none⟩) (Kd.R_far (p := ⟨gb539, 0, none⟩) (Kd.R_types HO544.out BK539.out (by decide)) (fun _ hk => hk.2) (.int .i64 t541)) (fun _ hk => hk.2) (.slice Ao12 t542.length co12)) (fun _ hk => trivial), hb66⟩

/-! ### impl_DropClue: function 26 -/
def impl_DropClue.f (k : Nat) (a0_0 : Int) (l0_1 : List (S37)) (a1 : Int) : Option (Int × (List (S37)) × Bool) := (impl_isPuzzle.f k a0_0 l0_1).bind fun t555 => (if t555 = true then ((impl_in.f a1 0 (wrap64 ((l0_1.length : Int) - 1))).bind fun t556 => (if t556 = true then ((impl_without.f l0_1 a1).bind fun t557 => (some (a0_0, t557, true))) else (some (0, ([] : List (S37)), false)))) else (some (0, ([] : List (S37)), false)))
theorem impl_DropClue.mono : ∀ a0 a1 a2 k, LeO (impl_DropClue.f k a0 a1 a2) (impl_DropClue.f (k + 1) a0 a1 a2) := by
  intro a0 a1 a2 k
  unfold impl_DropClue.f
  repeat' first
      | (with_reducible exact impl_isPuzzle.mono _ _ _)
      | (with_reducible exact LeO.refl _)
      | (with_reducible exact LeO.none _)
      | (with_reducible refine LeO.ite ?_ ?_)
      | (with_reducible refine LeO.bind ?_ (fun _ => ?_))
      | exact impl_isPuzzle.mono _ _ _
      | exact LeO.none _
      | refine LeO.ite ?_ ?_
      | refine LeO.bind ?_ (fun _ => ?_)
def impl_DropClue.T3 : Bool × List (List Nat × List Nat) := (true, [([], []), ([0], [0]), ([], []), ([2], [2]), ([], []), ([3, 4], [3, 4]), ([1, 5], [1, 5]), ([6, 5, 0, 1, 2, 3, 4, 5, 6], [6]), ([7, 0, 1, 2, 3, 4, 5, 6, 7], [])])
def impl_DropClue.B3 : List Nat := [0, 1, 0, 4, 0, 28, 63, 127, 255]
theorem impl_DropClue.tab3 : rtab .any (opsOf Tryz.f26 3) = impl_DropClue.T3 := by kernel_rfl
theorem impl_DropClue.bits3 : waitsOk impl_DropClue.T3.2 impl_DropClue.B3 = true := by kernel_rfl
set_option maxHeartbeats 8000000 in
set_option maxRecDepth 100000 in
theorem impl_DropClue.calls (k : Nat) (a0_0 : Int) (A0_1 : Option Addr) (c0_1 : Nat) (l0_1 : List (S37)) (a1 : Int) (r1 : Int) (r2 : List (S37)) (r3 : Bool) (w : World) (hr0_1 : Kd.C k37 w A0_1 l0_1.length l0_1) (hc0_1 : l0_1.length ≤ c0_1) (h : impl_DropClue.f k a0_0 l0_1 a1 = some (r1, r2, r3)) :
  Calls Tryz.prog 26 #[.agg #[.int .i64 a0_0, .slice A0_1 l0_1.length c0_1], .int .i64 a1] w fun e w' => ∃ v1_ : Value, e = .returned (.tuple #[.agg #[.int .i64 r1, v1_], .bool r3]) ∧ Kd.R k37 37 w' w.heap.size (fun _ => True) v1_ r2 ∧ Below w.heap.size w w' := by
 have hu28 := Tryz.underlying28
 have HR0_1 := Aside0.mk hr0_1
 have HC0_1 := Aside0.mk hc0_1
 clear hr0_1 hc0_1
 have HB := Aside0.mk (Below.refl w.heap.size w)
 unfold impl_DropClue.f at h
 have H := h
 clear h
 obtain ⟨t555, A3, H⟩ := ob H
 (try dsimp only at H)
 go_enter Tryz.func26, Tryz.ntmps26
 try go_wp2_with (first | ((with_reducible refine gd 2 ?_); (try (refine gate_guard (by rfl) ?_; dsimp only)); refine bx 2 28 #[.int .i64 a0_0, .slice A0_1 l0_1.length c0_1] ?_; intro gb553 hg w8 hbox hb; have BK553 := hbox; have GW553 := gs hg; have GE553 := gs hg; replace HB := bs hb; clear hb hbox hg) | ((with_reducible refine gd 4 ?_); (try (refine gate_guard (by rfl) ?_; dsimp only)); refine bx 4 28 #[.int .i64 0, .slice none 0 0] ?_; intro gb554 hg w9 hbox hb; have BK554 := hbox; have GW554 := gs hg; have GE554 := gs hg; replace HB := bs hb; have ⟨NB553_554, NB554_553⟩ := nn BK553 hg; replace BK553 := nk BK553 hb; clear hb hbox hg; have hnb10 := NB553_554.out; have hnc10 := NB554_553.out; obtain ⟨hcz11_0, hcz11_1, hfz11_0, hfz11_1⟩ := z2 BK553; refine halt ?_))
 by_cases c4 : t555 = true
 ·subst c4
  rw [if_pos rfl] at H
  obtain ⟨t556, A5, H⟩ := ob H
  (try dsimp only at H)
  refine Aside0.mk ?_
  try go_wp2_with (((with_reducible refine gc 53 ?_); refine gl (some 7) Tryz.func53 #[.agg #[.int .i64 a0_0, .slice A0_1 l0_1.length c0_1]] ?_; (with_reducible refine (impl_isPuzzle.calls k a0_0 _ _ l0_1 true _ ?_ ?_ A3.out).mono ?_); exact cb HR0_1; exact HC0_1.out; rintro e w12 ⟨rfl, hb⟩; refine ⟨_, rfl, ?_⟩; replace BK553 := nk BK553 hb; replace BK554 := nk BK554 hb; replace HB := bs hb; (try clear hb); obtain ⟨hcz13_0, hcz13_1, hfz13_0, hfz13_1⟩ := z2 BK553; refine halt ?_))
  by_cases c6 : t556 = true
  ·subst c6
   rw [if_pos rfl] at H
   obtain ⟨t557, A7, H⟩ := ob H
   (try dsimp only at H)
   simp only [Option.some.injEq, Prod.mk.injEq] at H
   obtain ⟨rfl, rfl, rfl⟩ := H
   refine Aside0.mk ?_
   try go_wp2_with ((go_at_call 40; (with_reducible refine (impl_in.calls a1 0 (wrap64 ((l0_1.length : Int) - 1)) true _ A5.out).mono ?_); rintro e w' ⟨rfl, ⟨nd, rfl⟩⟩; (try (rw [drewN_self w12]; generalize hq_ : World.drewN w12 _ = w12; have n0_ : Aside0 (w12.heap[gb553]? = some (.cells #[.int .i64 a0_0, .slice A0_1 l0_1.length c0_1] 28 (0, 0))) := ⟨by rw [← hq_]; exact (pk BK553)⟩; have n1_ : Aside0 (w12.heap[gb554]? = some (.cells #[.int .i64 0, .slice none 0 0] 28 (0, 0))) := ⟨by rw [← hq_]; exact (pk BK554)⟩; have n2_ : Aside0 (Below w.heap.size w w12) := ⟨by rw [← hq_]; exact bw⟩; clear BK553 BK554 HB hq_; have BK553 := n0_; have BK554 := n1_; have HB := n2_; clear n0_ n1_ n2_))))
   replace BK553 := Aside0.mk (blk_drew BK553.out)
   replace BK554 := Aside0.mk (blk_drew BK554.out)
   replace HB := Aside0.mk (below_drew1 HB.out)
   refine start_ (n := 9) (S := fun w' => w'.cell? ⟨gb553, 0, none⟩ = some (.int .i64 a0_0) ∧ w'.cell? ⟨gb553, 1, none⟩ = some (.slice A0_1 l0_1.length c0_1)) (ds := []) (tb 9 0) (by kernel_rfl) rfl rfl ⟨ec BK553, ec BK553⟩ (fun hHeld => ?_); refine with_tabW impl_DropClue.tab3 impl_DropClue.bits3 (fun HT_ HW_ => ?_)
   generalize w12.drew = w14 at BK553 BK554 HB hHeld ⊢
   refine pu 0 (some 19) (tb 9 1) ?_
   refine pu 2 (some 21) (tb 9 5) ?_
   refine pu 4 (some 23) (tb 9 21) ?_
   refine tk 1 (some 20) (tb 9 23) hHeld ?_
   refine tk 3 (some 22) (tb 9 31) hHeld ?_
   refine one_ (i := 5) (N := some 24) (tb 9 63) rfl rfl (one_of HT_.out (by kernel_rfl)) (by decide) (fun K hK => ?_)
   refine go1 Tryz.func59 #[.slice A0_1 l0_1.length c0_1, .int .i64 a1] ?_
   with_reducible refine (impl_without.calls _ _ l0_1 a1 t557 _ ?side1 ?side2 A7.out).mono ?_
   (case side1 => exact cb HR0_1)
   (case side2 => exact HC0_1.out)
   rintro e w15 ⟨v558, rfl, ho0, hb⟩
   refine ⟨_, rfl, ?_⟩
   have HO559 := Aside0.mk (Kd.R_lower ho0 (below_size bw))
   replace BK553 := nk BK553 hb
   replace BK554 := nk BK554 hb
   replace HB := bs hb
   (try clear hb)
   (try clear ho0)
   obtain ⟨Ao16, co16, eo16⟩ := Kd.R_slice HO559.out
   (first | subst eo16 | (injection eo16 with f1_ f2_ f3_; have f4_ := f1_.symm; have f5_ := f3_.symm; clear f1_ f2_ f3_; subst f4_; subst f5_))
   refine hK.out _ _ ⟨ec BK553, ec BK553⟩ (fun hHeld => ?_)
   clear hK K
   refine nm (some 24) ?_
   refine pu 6 (some 25) (tb 9 127) ?_
   refine one_ (i := 7) (N := none) (tb 9 255) rfl rfl (one_of HT_.out (by kernel_rfl)) (by decide) (fun K hK => ?_)
   have hs17 : w15.cell? ⟨gb554, 0, none⟩ = some (.int .i64 0) := ec BK554
   have hfs17 := blk_frozen BK554.out 0
   have hns17_0 := NB553_554.out
   have hms17_0 := NB554_553.out
   have hs18 : w15.cell? ⟨gb554, 1, none⟩ = some (.slice none 0 0) := ec BK554
   have hfs18 := blk_frozen BK554.out 1
   have hns18_0 := NB553_554.out
   have hms18_0 := NB554_553.out
   refine skip_ (w1 := ?_) (by rfl) rfl ?_ ?_
   rotate_left
   ·go_simp
    rfl
   refine hK.out _ _ ⟨((cell_far (p := ⟨gb554, _, none⟩) NB553_554.out _).trans (((cell_far (p := ⟨gb554, _, none⟩) NB553_554.out _).trans (hHeld.1)))), ((cell_far (p := ⟨gb554, _, none⟩) NB553_554.out _).trans (((cell_far (p := ⟨gb554, _, none⟩) NB553_554.out _).trans (hHeld.2))))⟩ (fun hHeld => ?_)
   clear hK K
   refine pu 8 (some 5) (tb 9 511) ?_
   refine done_ (done_of HT_.out (by kernel_rfl)) ?_
   try go_wp2
   refine bodyPost_ret (results_ct rfl _ _ gb554 28 #[.int .i64 a0_0, .slice Ao16 t557.length co16] (0, 0) _ rfl (pz BK554) Tryz.underlying28 rfl (by kernel_rfl)) rfl ?_
   exact ⟨_, rs, by (with_reducible repeat (first | apply Kd.R_alloc | apply Kd.R_drewN | apply Kd.R_drew)); exact Kd.R_mono (Kd.R_far (p := ⟨gb554, 1, none⟩) (Kd.R_far (p := ⟨gb554, 0, none⟩) (Kd.R_types HO559.out BK554.out (by decide)) (fun _ hk => hk.2) (.int .i64 a0_0)) (fun _ hk => hk.2) (.slice Ao16 t557.length co16)) (fun _ hk => trivial), bw⟩
  replace c6 := Bool.eq_false_iff.mpr c6
  subst c6
  rw [if_neg (show ¬ (false = true) by decide)] at H
  simp only [Option.some.injEq, Prod.mk.injEq] at H
  obtain ⟨rfl, rfl, rfl⟩ := H
  refine Aside0.mk ?_
  try go_wp2_with ((go_at_call 40; (with_reducible refine (impl_in.calls a1 0 (wrap64 ((l0_1.length : Int) - 1)) false _ A5.out).mono ?_); rintro e w' ⟨rfl, ⟨nd, rfl⟩⟩; (try (rw [drewN_self w12]; generalize hq_ : World.drewN w12 _ = w12; have n0_ : Aside0 (w12.heap[gb554]? = some (.cells #[.int .i64 0, .slice none 0 0] 28 (0, 0))) := ⟨by rw [← hq_]; exact (pk BK554)⟩; have n1_ : Aside0 (Below w.heap.size w w12) := ⟨by rw [← hq_]; exact bw⟩; clear BK554 HB hq_; have BK554 := n0_; have HB := n1_; clear n0_ n1_)); have hz25 := z2 BK554))
  refine bodyPost_ret (results_ct rfl _ _ gb554 28 #[.int .i64 0, .slice none 0 0] (0, 0) _ rfl (pz BK554) Tryz.underlying28 rfl (by kernel_rfl)) rfl ?_
  exact ⟨_, rs, by first | exact Kd.R_nil _ _ _ _ _ | exact Kd.N_nil _ _ _ _ _ | exact Kd.V_nil _ _ _ _ _ | exact Kd.Q_nil _ _ _ _ _ | exact Kd.S_nil _ _ _ _ _, bw⟩
 replace c4 := Bool.eq_false_iff.mpr c4
 subst c4
 rw [if_neg (show ¬ (false = true) by decide)] at H
 simp only [Option.some.injEq, Prod.mk.injEq] at H
 obtain ⟨rfl, rfl, rfl⟩ := H
 refine Aside0.mk ?_
 try go_wp2_with (((with_reducible refine gc 53 ?_); refine gl (some 7) Tryz.func53 #[.agg #[.int .i64 a0_0, .slice A0_1 l0_1.length c0_1]] ?_; (with_reducible refine (impl_isPuzzle.calls k a0_0 _ _ l0_1 false _ ?_ ?_ A3.out).mono ?_); exact cb HR0_1; exact HC0_1.out; rintro e w30 ⟨rfl, hb⟩; refine ⟨_, rfl, ?_⟩; replace BK554 := nk BK554 hb; replace HB := bs hb; (try clear hb); have hz31 := z2 BK554))
 refine bodyPost_ret (results_ct rfl _ _ gb554 28 #[.int .i64 0, .slice none 0 0] (0, 0) _ rfl (pz BK554) Tryz.underlying28 rfl (by kernel_rfl)) rfl ?_
 exact ⟨_, rs, by first | exact Kd.R_nil _ _ _ _ _ | exact Kd.N_nil _ _ _ _ _ | exact Kd.V_nil _ _ _ _ _ | exact Kd.Q_nil _ _ _ _ _ | exact Kd.S_nil _ _ _ _ _, bw⟩

end Go.Proofs.YthjbmojacgkdcaaGreatDoor.PFnRowsHidden
