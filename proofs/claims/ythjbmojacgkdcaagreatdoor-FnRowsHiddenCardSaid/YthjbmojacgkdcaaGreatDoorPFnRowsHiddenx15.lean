-- Laid by xprint, a program of this session that runs over the kit's print.
import Derived.Test.YthjbmojacgkdcaaGreatDoorPFnRowsHiddenx14
namespace Go.Proofs.YthjbmojacgkdcaaGreatDoor.PFnRowsHidden
open Go.RowKit Go.Proofs.YthjbmojacgkdcaaGreatDoorW.PrintWords Go.Proofs.YthjbmojacgkdcaaGreatDoorW.PrintLast Go.Proofs.YthjbmojacgkdcaaGreatDoorW.PrintMore Go.Proofs.YthjbmojacgkdcaaGreatDoor.Sq
attribute [local go_sem] max2_int min2_int max_two min_two max_three min_three max_four min_four   -- for this text's walks alone
set_option linter.unusedVariables false
set_option linter.unusedSimpArgs false

/-! ### impl_NeedlessClues: function 20 -/
def impl_NeedlessClues.l0 : Nat → List ByteArray → List Int → Int → Int → Int → List (S37) → Option (List Int × Bool)
  | 0, _, _, _, _, _, _ => none
  | k + 1, x4, x6, x18, x19, x475000, x475001 => if x19 < x18 then ((impl_without.f x475001 x19).bind fun t482 => ((impl_solutions.f k x475000 t482).bind fun t485 => (if (t485.length : Int) = (x4.length : Int) then (if x6.length < 17592186044416 then (impl_NeedlessClues.l0 k x4 (x6 ++ [x19]) x18 (wrap64 (x19 + 1)) x475000 x475001) else (none)) else (impl_NeedlessClues.l0 k x4 x6 x18 (wrap64 (x19 + 1)) x475000 x475001)))) else (some (x6, true))
def impl_NeedlessClues.f (k : Nat) (a0_0 : Int) (l0_1 : List (S37)) : Option (List Int × Bool) := (impl_Solutions.f k a0_0 l0_1).bind fun bt475 => (if bt475.2 = true then (impl_NeedlessClues.l0 k bt475.1 (([] : List Int)) (l0_1.length : Int) 0 a0_0 l0_1) else (some (([] : List Int), false)))
theorem impl_NeedlessClues.mono_l : ∀ k, (∀ y0 y1 y2 y3 y4 y5, LeO (impl_NeedlessClues.l0 k y0 y1 y2 y3 y4 y5) (impl_NeedlessClues.l0 (k + 1) y0 y1 y2 y3 y4 y5))
  | 0 => fun _ _ _ _ _ _ r h => by simp [impl_NeedlessClues.l0] at h
  | k + 1 => by
    have ih0 := impl_NeedlessClues.mono_l k
    · intro y0 y1 y2 y3 y4 y5
      unfold impl_NeedlessClues.l0
      repeat' first
      | (with_reducible exact ih0 _ _ _ _ _ _)
      | (with_reducible exact impl_Solutions.mono _ _ _)
      | (with_reducible exact impl_solutions.mono _ _ _)
      | (with_reducible exact LeO.refl _)
      | (with_reducible exact LeO.none _)
      | (with_reducible refine LeO.ite ?_ ?_)
      | (with_reducible refine LeO.bind ?_ (fun _ => ?_))
      | exact ih0 _ _ _ _ _ _
      | exact impl_Solutions.mono _ _ _
      | exact impl_solutions.mono _ _ _
      | exact LeO.none _
      | refine LeO.ite ?_ ?_
      | refine LeO.bind ?_ (fun _ => ?_)
theorem impl_NeedlessClues.mono : ∀ a0 a1 k, LeO (impl_NeedlessClues.f k a0 a1) (impl_NeedlessClues.f (k + 1) a0 a1) := by
  intro a0 a1 k
  have ih0 := impl_NeedlessClues.mono_l k
  unfold impl_NeedlessClues.f
  repeat' first
      | (with_reducible exact ih0 _ _ _ _ _ _)
      | (with_reducible exact impl_Solutions.mono _ _ _)
      | (with_reducible exact impl_solutions.mono _ _ _)
      | (with_reducible exact LeO.refl _)
      | (with_reducible exact LeO.none _)
      | (with_reducible refine LeO.ite ?_ ?_)
      | (with_reducible refine LeO.bind ?_ (fun _ => ?_))
      | exact ih0 _ _ _ _ _ _
      | exact impl_Solutions.mono _ _ _
      | exact impl_solutions.mono _ _ _
      | exact LeO.none _
      | refine LeO.ite ?_ ?_
      | refine LeO.bind ?_ (fun _ => ?_)
def impl_NeedlessClues.T8 : Bool × List (List Nat × List Nat) := (true, [([], []), ([0], [0]), ([], []), ([2], [2]), ([], []), ([3, 4], [3, 4]), ([1, 5, 5], [1, 5]), ([6], [6]), ([], []), ([8], [8]), ([7, 9], [7, 9])])
def impl_NeedlessClues.B8 : List Nat := [0, 1, 0, 4, 0, 28, 63, 127, 0, 256, 1023]
theorem impl_NeedlessClues.tab8 : rtab .any (opsOf Tryz.f20 8) = impl_NeedlessClues.T8 := by kernel_rfl
theorem impl_NeedlessClues.bits8 : waitsOk impl_NeedlessClues.T8.2 impl_NeedlessClues.B8 = true := by kernel_rfl
set_option maxHeartbeats 8000000 in
set_option maxRecDepth 100000 in
theorem impl_NeedlessClues.calls (k : Nat) (a0_0 : Int) (A0_1 : Option Addr) (c0_1 : Nat) (l0_1 : List (S37)) (r1 : List Int) (r2 : Bool) (w : World) (hm : Dr.Tab w) (hr0_1 : Kd.C k37 w A0_1 l0_1.length l0_1) (hc0_1 : l0_1.length ≤ c0_1) (h : impl_NeedlessClues.f k a0_0 l0_1 = some (r1, r2)) :
  Calls Tryz.prog 20 #[.agg #[.int .i64 a0_0, .slice A0_1 l0_1.length c0_1]] w fun e w' => ∃ v0_ : Value, e = .returned (.tuple #[v0_, .bool r2]) ∧ Kd.R (Kd.int .i64) 3 w' w.heap.size (fun _ => True) v0_ r1 ∧ Below w.heap.size w w' := by
 have hu28 := Tryz.underlying28
 have HR0_1 := Aside0.mk hr0_1
 have HC0_1 := Aside0.mk hc0_1
 clear hr0_1 hc0_1
 have HB := Aside0.mk (Below.refl w.heap.size w)
 have HMM := Aside0.mk hm
 clear hm
 unfold impl_NeedlessClues.f at h
 have H := h
 clear h
 obtain ⟨⟨t475, t478⟩, A2, H⟩ := ob H
 (try dsimp only at H)
 go_enter Tryz.func20, Tryz.ntmps20
 go_wp2_with (((with_reducible refine gd 1 ?_); refine bx 1 28 #[.int .i64 a0_0, .slice A0_1 l0_1.length c0_1] ?_; intro gb474 hg w4 hbox hb; have BK474 := hbox; have GW474 := gs hg; have GE474 := gs hg; replace HB := bs hb; clear hb hbox hg; obtain ⟨hcz5_0, hcz5_1, hfz5_0, hfz5_1⟩ := z2 BK474; refine halt ?_))
 by_cases c3 : t478 = true
 ·subst c3
  rw [if_pos rfl] at H
  obtain ⟨y479, hy479⟩ : ∃ y_ : List Int, y_ = (([] : List Int)) := ⟨_, rfl⟩
  replace H : (impl_NeedlessClues.l0 k t475 y479 (l0_1.length : Int) 0 a0_0 l0_1) = some (r1, r2) := by first | (rw [hy479]; with_reducible exact H) | (have H2_ := (Option.bind_some _ _).symm.trans H; rw [hy479]; with_reducible exact H2_) | (have H2_ := (Option.bind_some _ _).symm.trans H; with_reducible exact H2_) | with_reducible exact H | (rw [hy479]; exact H) | exact H
  have Ny479 := Aside0.mk hy479
  clear hy479
  have H' := Aside0.mk H
  clear H
  refine Aside0.mk ?_
  try go_wp2_with (first | ((with_reducible refine gc 19 ?_); refine gl (some 10) Tryz.func19 #[.agg #[.int .i64 a0_0, .slice A0_1 l0_1.length c0_1]] ?_; (with_reducible refine (impl_Solutions.calls k a0_0 _ _ l0_1 t475 true _ ?_ ?_ ?_ A2.out).mono ?_); exact Dr.mm HMM; exact cb HR0_1; exact HC0_1.out; rintro e w6 ⟨v476, rfl, ho0, hb⟩; refine ⟨_, rfl, ?_⟩; have HO477 := Aside0.mk (Kd.R_lower ho0 (below_size bw)); replace BK474 := nk BK474 hb; replace HB := bs hb; (try clear hb); (try clear ho0)) | ((with_reducible refine gd 15 ?_); refine Kd.R_lit (Kd.int .i64) _ 3 ?hg (N := 15) ?hd (xs := ([] : List Int)) (inner := []) (ok := fun _ => True) (okp := fun _ => True) ?hr ?hp (fun _ hk => hk) trivial (Below.refl _ _) (Nat.le_refl _) (by simp) ?_; (case hd => rfl); (case hg => rfl); (case hr => first | (go_simp; done) | (go_simp; rfl)); (case hp => exact (Reps.none _ _)); intro v480 w7 ho8 hb hg_ hnew_; clear hg_ hnew_; (first | rw [← Ny479.out] at ho8 | (simp only [Int.reduceToNat] at ho8; rw [← Ny479.out] at ho8)); replace HO477 := rl HO477 hb; have HO481 := Aside0.mk (Kd.R_lower ho8 (below_size bw)); replace BK474 := nk BK474 hb; replace HB := bs hb; clear hb ho8; obtain ⟨hcz9_0, hcz9_1, hfz9_0, hfz9_1⟩ := z2 BK474))
  go_loopg [6, 19] k (fun kq v6 v19 w' => ∃ (x6_1 : List Int) (x19_1 : Int), v19 = .int .i64 x19_1 ∧ Aside0 (impl_NeedlessClues.l0 kq t475 x6_1 (l0_1.length : Int) x19_1 a0_0 l0_1 = some (r1, r2)) ∧ Aside0 (kq ≤ k) ∧ Aside0 (Kd.R Kd.string 9 w' w.heap.size (fun _ => True) v476 t475) ∧ Aside0 (Kd.R (Kd.int .i64) 3 w' w.heap.size (fun _ => True) v6 x6_1) ∧ Aside0 (w'.heap[gb474]? = some (.cells #[.int .i64 a0_0, (.slice A0_1 l0_1.length c0_1)] 28 (0, 0))) ∧ Aside0 (Below w.heap.size w w'))
  case atStart => exact ⟨(y479), (0), (rs), H', ⟨Nat.le_refl _⟩, ⟨pr HO477⟩, ⟨pr HO481⟩, ⟨pk BK474⟩, ⟨bw⟩⟩
  case round =>
   clear H'
   try clear c1
   try clear c2
   try clear p2
   try clear c3
   try clear hcz5_0
   try clear hcz5_1
   try clear hcz9_0
   try clear hcz9_1
   try clear hfz5_0
   try clear hfz5_1
   try clear hfz9_0
   try clear hfz9_1
   obtain ⟨x6_1, x19_1, rfl, HA, HK1, HO_4, HO_6, BK474, HB⟩ := hrel
   cases gk with
   | zero => exact absurd HA.out (by simp [impl_NeedlessClues.l0])
   | succ k1 =>
    have H := HA.out
    clear HA
    simp only [impl_NeedlessClues.l0] at H
    by_cases c10 : x19_1 < (l0_1.length : Int)
    ·rw [if_pos c10] at H
     have c10b0 := decide_eq_true c10
     clear c10
     obtain ⟨t482, A11, H⟩ := ob H
     (try dsimp only at H)
     obtain ⟨t485, A12, H⟩ := ob H
     (try dsimp only at H)
     by_cases c13 : (t485.length : Int) = (t475.length : Int)
     ·rw [if_pos c13] at H
      have c13b0 : ((t485.length : Int) == (t475.length : Int)) = true := beq_iff_eq.mpr c13
      have c13b1 : ((t485.length : Int) != (t475.length : Int)) = false := bne_eq_false_iff_eq.mpr c13
      have c13b2 : (t485.length == t475.length) = true := by first | simpa using c13 | (simp at c13 ⊢; omega)
      clear c13
      obtain ⟨c14, H⟩ := oi H
      have LMc14 := Aside0.mk c14
      clear c14
      obtain ⟨y488, hy488⟩ : ∃ y_ : List Int, y_ = (x6_1 ++ [x19_1]) := ⟨_, rfl⟩
      replace H : (impl_NeedlessClues.l0 k1 t475 y488 (l0_1.length : Int) (wrap64 (x19_1 + 1)) a0_0 l0_1) = some (r1, r2) := by first | (rw [hy488]; with_reducible exact H) | (have H2_ := (Option.bind_some _ _).symm.trans H; rw [hy488]; with_reducible exact H2_) | (have H2_ := (Option.bind_some _ _).symm.trans H; with_reducible exact H2_) | with_reducible exact H | (rw [hy488]; exact H) | exact H
      have Ny488 := Aside0.mk hy488
      clear hy488
      have H' := Aside0.mk H
      clear H
      try go_wp2
      replace HO_4 := Aside0.mk (Kd.R_drew HO_4.out)
      replace HO_6 := Aside0.mk (Kd.R_drew HO_6.out)
      replace BK474 := Aside0.mk (blk_drew BK474.out)
      replace HB := Aside0.mk (below_drew1 HB.out)
      obtain ⟨Ao16, co16, eo16⟩ := Kd.R_slice HO_4.out
      (first | subst eo16 | (injection eo16 with f1_ f2_ f3_; have f4_ := f1_.symm; have f5_ := f3_.symm; clear f1_ f2_ f3_; subst f4_; subst f5_))
      refine start_ (n := 11) (S := fun w' => w'.cell? ⟨gb474, 0, none⟩ = some (.int .i64 a0_0) ∧ w'.cell? ⟨gb474, 1, none⟩ = some (.slice A0_1 l0_1.length c0_1)) (ds := []) (tb 11 0) (by kernel_rfl) rfl rfl ⟨ec BK474, ec BK474⟩ (fun hHeld => ?_); refine with_tabW impl_NeedlessClues.tab8 impl_NeedlessClues.bits8 (fun HT_ HW_ => ?_)
      generalize wr.drew = w15 at HO_4 HO_6 BK474 HB hHeld ⊢
      refine pu 0 (some 22) (tb 11 1) ?_
      refine pu 2 (some 24) (tb 11 5) ?_
      refine pu 4 (some 26) (tb 11 21) ?_
      refine pu 8 (some 30) (tb 11 277) ?_
      refine pu 9 (some 31) (tb 11 789) ?_
      refine tk 1 (some 23) (tb 11 791) hHeld ?_
      refine tk 3 (some 25) (tb 11 799) hHeld ?_
      refine one_ (i := 5) (N := some 27) (tb 11 831) rfl rfl (one_of HT_.out (by kernel_rfl)) (by decide) (fun K hK => ?_)
      refine go1 Tryz.func59 #[.slice A0_1 l0_1.length c0_1, .int .i64 x19_1] ?_
      with_reducible refine (impl_without.calls _ _ l0_1 x19_1 t482 _ ?side1 ?side2 A11.out).mono ?_
      (case side1 => exact cb HR0_1)
      (case side2 => exact HC0_1.out)
      rintro e w17 ⟨v483, rfl, ho0, hb⟩
      refine ⟨_, rfl, ?_⟩
      replace HO_4 := rl HO_4 hb
      replace HO_6 := rl HO_6 hb
      have HO484 := Aside0.mk (Kd.R_lower ho0 (below_size bw))
      replace BK474 := nk BK474 hb
      replace HB := bs hb
      (try clear hb)
      (try clear ho0)
      obtain ⟨Ao18, co18, eo18⟩ := Kd.R_slice HO484.out
      (first | subst eo18 | (injection eo18 with f1_ f2_ f3_; have f4_ := f1_.symm; have f5_ := f3_.symm; clear f1_ f2_ f3_; subst f4_; subst f5_))
      refine hK.out _ _ ⟨ec BK474, ec BK474⟩ (fun hHeld => ?_)
      clear hK K
      refine nm (some 27) ?_
      refine one_ (i := 6) (N := some 28) (tb 11 895) rfl rfl (one_of HT_.out (by kernel_rfl)) (by decide) (fun K hK => ?_)
      refine go1 Tryz.func60 #[.int .i64 a0_0, .slice Ao18 t482.length co18] ?_
      with_reducible refine (impl_solutions.calls k1 a0_0 _ _ t482 t485 _ ?side1 ?side2 ?side3 A12.out).mono ?_
      (case side1 => exact Dr.mm HMM)
      (case side2 => exact rr HO484)
      (case side3 => exact rn HO484)
      rintro e w19 ⟨v486, rfl, ho0, hb⟩
      refine ⟨_, rfl, ?_⟩
      replace HO_6 := rl HO_6 hb
      replace HO484 := rl HO484 hb
      have HO487 := Aside0.mk (Kd.R_lower (Kd.R_new' ho0 (Kd.R_lt (pr HO_4))) (below_size bw))
      replace HO_4 := re HO_4 ho0 hb
      replace BK474 := nk BK474 hb
      replace HB := bs hb
      (try clear hb)
      (try clear ho0)
      obtain ⟨Ao20, co20, eo20⟩ := Kd.R_slice HO487.out
      (first | subst eo20 | (injection eo20 with f1_ f2_ f3_; have f4_ := f1_.symm; have f5_ := f3_.symm; clear f1_ f2_ f3_; subst f4_; subst f5_))
      refine hK.out _ _ ⟨ec BK474, ec BK474⟩ (fun hHeld => ?_)
      clear hK K
      refine nm (some 28) ?_
      refine pu 7 (some 29) (tb 11 1023) ?_
      refine pu 10 (some 32) (tb 11 2047) ?_
      refine done_ (done_of HT_.out (by kernel_rfl)) ?_
      try go_wp2_with (first | ((with_reducible refine gate_builtin (b := .append) (xs := #[.tmp 33, .tmp 35]) rfl ?_); at_builtin; refine Kd.R_append (Kd.int .i64) (w0 := w) w.heap.size rfl (.tmp 33) (.tmp 35) 38 3 (.int .i64 0) 8 rfl Tryz.underlying38 info3 rfl (by decide) (by omega) u6 x6_1 x19_1 [.int .i64 x19_1] (fun _ => True) (fun _ => False) rfl rfl ?aP (fun _ hk => hk.elim) ?aF ?aO ?aB ?aS ?aL ?_; (case aP => exact rfl); (case aB => exact bw); (case aF => exact (fun _ _ => trivial)); (case aO => exact (pr HO_6)); (case aS => exact (below_size bw)); (case aL => have := LMc14.out; omega); intro v489 w21 ho hb hg hat; rw [← Ny488.out] at ho; have n0_ := Aside0.mk (Kd.R_over' (pr HO_4) (Kd.R_typed (pr HO_6)) (by decide) hg); have n1_ := Aside0.mk (blk_grown (pk BK474) hg (Kd.R_ne HO_6.out BK474.out (by decide))); have n2_ := Aside0.mk (Kd.R_over' (pr HO484) (Kd.R_typed (pr HO_6)) (by decide) hg); have n3_ := Aside0.mk (Kd.R_over' (pr HO487) (Kd.R_typed (pr HO_6)) (by decide) hg); have n4_ := Aside0.mk (hb); have n5_ := Aside0.mk (ho); clear HO_4; clear BK474; clear HO484; clear HO487; clear HB; clear HO_6; have HO_4 := n0_; have BK474 := n1_; have HO484 := n2_; have HO487 := n3_; have HB := n4_; have HO490 := n5_; clear n0_ n1_ n2_ n3_ n4_ n5_; clear ho hb hg hat))
      go_roundg k1
      case measure => have := HK1.out; omega
      case rel => exact ⟨(y488), (wrap64 (x19_1 + 1)), (rs), H', ⟨by have := HK1.out; omega⟩, ⟨by (with_reducible repeat (first | apply Kd.R_alloc | apply Kd.R_drewN | apply Kd.R_drew)); exact Kd.R_mono HO_4.out (fun _ hk => trivial)⟩, ⟨pr HO490⟩, ⟨pk BK474⟩, ⟨bw⟩⟩
     rw [if_neg c13] at H
     have c13b0 : ((t485.length : Int) == (t475.length : Int)) = false := beq_eq_false_iff_ne.mpr c13
     have c13b1 : ((t485.length : Int) != (t475.length : Int)) = true := bne_iff_ne.mpr c13
     have c13b2 : (t485.length == t475.length) = false := by first | simpa using c13 | (simp at c13 ⊢; omega)
     have H' := Aside0.mk H
     clear H
     try go_wp2
     replace HO_4 := Aside0.mk (Kd.R_drew HO_4.out)
     replace HO_6 := Aside0.mk (Kd.R_drew HO_6.out)
     replace BK474 := Aside0.mk (blk_drew BK474.out)
     replace HB := Aside0.mk (below_drew1 HB.out)
     obtain ⟨Ao23, co23, eo23⟩ := Kd.R_slice HO_4.out
     (first | subst eo23 | (injection eo23 with f1_ f2_ f3_; have f4_ := f1_.symm; have f5_ := f3_.symm; clear f1_ f2_ f3_; subst f4_; subst f5_))
     refine start_ (n := 11) (S := fun w' => w'.cell? ⟨gb474, 0, none⟩ = some (.int .i64 a0_0) ∧ w'.cell? ⟨gb474, 1, none⟩ = some (.slice A0_1 l0_1.length c0_1)) (ds := []) (tb 11 0) (by kernel_rfl) rfl rfl ⟨ec BK474, ec BK474⟩ (fun hHeld => ?_); refine with_tabW impl_NeedlessClues.tab8 impl_NeedlessClues.bits8 (fun HT_ HW_ => ?_)
     generalize wr.drew = w22 at HO_4 HO_6 BK474 HB hHeld ⊢
     refine pu 0 (some 22) (tb 11 1) ?_
     refine pu 2 (some 24) (tb 11 5) ?_
     refine pu 4 (some 26) (tb 11 21) ?_
     refine pu 8 (some 30) (tb 11 277) ?_
     refine pu 9 (some 31) (tb 11 789) ?_
     refine tk 1 (some 23) (tb 11 791) hHeld ?_
     refine tk 3 (some 25) (tb 11 799) hHeld ?_
     refine one_ (i := 5) (N := some 27) (tb 11 831) rfl rfl (one_of HT_.out (by kernel_rfl)) (by decide) (fun K hK => ?_)
     refine go1 Tryz.func59 #[.slice A0_1 l0_1.length c0_1, .int .i64 x19_1] ?_
     with_reducible refine (impl_without.calls _ _ l0_1 x19_1 t482 _ ?side1 ?side2 A11.out).mono ?_
     (case side1 => exact cb HR0_1)
     (case side2 => exact HC0_1.out)
     rintro e w24 ⟨v483, rfl, ho0, hb⟩
     refine ⟨_, rfl, ?_⟩
     replace HO_4 := rl HO_4 hb
     replace HO_6 := rl HO_6 hb
     have HO484 := Aside0.mk (Kd.R_lower ho0 (below_size bw))
     replace BK474 := nk BK474 hb
     replace HB := bs hb
     (try clear hb)
     (try clear ho0)
     obtain ⟨Ao25, co25, eo25⟩ := Kd.R_slice HO484.out
     (first | subst eo25 | (injection eo25 with f1_ f2_ f3_; have f4_ := f1_.symm; have f5_ := f3_.symm; clear f1_ f2_ f3_; subst f4_; subst f5_))
     refine hK.out _ _ ⟨ec BK474, ec BK474⟩ (fun hHeld => ?_)
     clear hK K
     refine nm (some 27) ?_
     refine one_ (i := 6) (N := some 28) (tb 11 895) rfl rfl (one_of HT_.out (by kernel_rfl)) (by decide) (fun K hK => ?_)
     refine go1 Tryz.func60 #[.int .i64 a0_0, .slice Ao25 t482.length co25] ?_
     with_reducible refine (impl_solutions.calls k1 a0_0 _ _ t482 t485 _ ?side1 ?side2 ?side3 A12.out).mono ?_
     (case side1 => exact Dr.mm HMM)
     (case side2 => exact rr HO484)
     (case side3 => exact rn HO484)
     rintro e w26 ⟨v486, rfl, ho0, hb⟩
     refine ⟨_, rfl, ?_⟩
     replace HO_6 := rl HO_6 hb
     replace HO484 := rl HO484 hb
     have HO487 := Aside0.mk (Kd.R_lower (Kd.R_new' ho0 (Kd.R_lt (pr HO_4))) (below_size bw))
     replace HO_4 := re HO_4 ho0 hb
     replace BK474 := nk BK474 hb
     replace HB := bs hb
     (try clear hb)
     (try clear ho0)
     obtain ⟨Ao27, co27, eo27⟩ := Kd.R_slice HO487.out
     (first | subst eo27 | (injection eo27 with f1_ f2_ f3_; have f4_ := f1_.symm; have f5_ := f3_.symm; clear f1_ f2_ f3_; subst f4_; subst f5_))
     refine hK.out _ _ ⟨ec BK474, ec BK474⟩ (fun hHeld => ?_)
     clear hK K
     refine nm (some 28) ?_
     refine pu 7 (some 29) (tb 11 1023) ?_
     refine pu 10 (some 32) (tb 11 2047) ?_
     refine done_ (done_of HT_.out (by kernel_rfl)) ?_
     try go_wp2
     go_roundg k1
     case measure => have := HK1.out; omega
     case rel => exact ⟨(x6_1), (wrap64 (x19_1 + 1)), (rs), H', ⟨by have := HK1.out; omega⟩, ⟨by (with_reducible repeat (first | apply Kd.R_alloc | apply Kd.R_drewN | apply Kd.R_drew)); exact Kd.R_mono HO_4.out (fun _ hk => trivial)⟩, ⟨pr HO_6⟩, ⟨pk BK474⟩, ⟨bw⟩⟩
    rw [if_neg c10] at H
    have c10b0 := decide_eq_false c10
    clear c10
    simp only [Option.some.injEq, Prod.mk.injEq] at H
    obtain ⟨rfl, rfl⟩ := H
    go_wp2
    go_ret2
    exact ⟨_, rs, pr HO_6, bw⟩
 replace c3 := Bool.eq_false_iff.mpr c3
 subst c3
 rw [if_neg (show ¬ (false = true) by decide)] at H
 simp only [Option.some.injEq, Prod.mk.injEq] at H
 obtain ⟨rfl, rfl⟩ := H
 refine Aside0.mk ?_
 try go_wp2_with (((with_reducible refine gc 19 ?_); refine gl (some 10) Tryz.func19 #[.agg #[.int .i64 a0_0, .slice A0_1 l0_1.length c0_1]] ?_; (with_reducible refine (impl_Solutions.calls k a0_0 _ _ l0_1 t475 false _ ?_ ?_ ?_ A2.out).mono ?_); exact Dr.mm HMM; exact cb HR0_1; exact HC0_1.out; rintro e w30 ⟨v476, rfl, ho0, hb⟩; refine ⟨_, rfl, ?_⟩; have HO477 := Aside0.mk (Kd.R_lower ho0 (below_size bw)); replace HB := bs hb; (try clear hb); (try clear ho0)))
 go_ret2
 exact ⟨_, rs, by first | exact Kd.R_nil _ _ _ _ _ | exact Kd.N_nil _ _ _ _ _ | exact Kd.V_nil _ _ _ _ _ | exact Kd.Q_nil _ _ _ _ _ | exact Kd.S_nil _ _ _ _ _, bw⟩

/-! ### laws_vTexts: function 21 -/
def laws_vTexts.l0 : Nat → List ByteArray → List ByteArray → Int → Int → Option (Bool)
  | 0, _, _, _, _ => none
  | k + 1, x0, x1, x12, x13 => if x13 < x12 then (if 0 ≤ x13 then (if x13 < (x0.length : Int) then (if x13 < (x1.length : Int) then (if (rdOf ByteArray.empty x0 x13).toList = (rdOf ByteArray.empty x1 x13).toList then (laws_vTexts.l0 k x0 x1 x12 (wrap64 (x13 + 1))) else (some false)) else (none)) else (none)) else (none)) else (some true)
def laws_vTexts.f (k : Nat) (l0 : List ByteArray) (l1 : List ByteArray) : Option (Bool) := if (l0.length : Int) = (l1.length : Int) then (laws_vTexts.l0 k l0 l1 (l0.length : Int) 0) else (some false)
theorem laws_vTexts.mono_l : ∀ k, (∀ y0 y1 y2 y3, LeO (laws_vTexts.l0 k y0 y1 y2 y3) (laws_vTexts.l0 (k + 1) y0 y1 y2 y3))
  | 0 => fun _ _ _ _ r h => by simp [laws_vTexts.l0] at h
  | k + 1 => by
    have ih0 := laws_vTexts.mono_l k
    · intro y0 y1 y2 y3
      unfold laws_vTexts.l0
      repeat' first
      | (with_reducible exact ih0 _ _ _ _)
      | (with_reducible exact LeO.refl _)
      | (with_reducible exact LeO.none _)
      | (with_reducible refine LeO.ite ?_ ?_)
      | (with_reducible refine LeO.bind ?_ (fun _ => ?_))
      | exact ih0 _ _ _ _
      | exact LeO.none _
      | refine LeO.ite ?_ ?_
      | refine LeO.bind ?_ (fun _ => ?_)
theorem laws_vTexts.mono : ∀ a0 a1 k, LeO (laws_vTexts.f k a0 a1) (laws_vTexts.f (k + 1) a0 a1) := by
  intro a0 a1 k
  have ih0 := laws_vTexts.mono_l k
  unfold laws_vTexts.f
  repeat' first
      | (with_reducible exact ih0 _ _ _ _)
      | (with_reducible exact LeO.refl _)
      | (with_reducible exact LeO.none _)
      | (with_reducible refine LeO.ite ?_ ?_)
      | (with_reducible refine LeO.bind ?_ (fun _ => ?_))
      | exact ih0 _ _ _ _
      | exact LeO.none _
      | refine LeO.ite ?_ ?_
      | refine LeO.bind ?_ (fun _ => ?_)
set_option maxHeartbeats 8000000 in
set_option maxRecDepth 100000 in
theorem laws_vTexts.calls (k : Nat) (A0 : Option Addr) (c0 : Nat) (l0 : List ByteArray) (A1 : Option Addr) (c1 : Nat) (l1 : List ByteArray) (r : Bool) (w : World) (hr0 : Kd.C Kd.string w A0 l0.length l0) (hc0 : l0.length ≤ c0) (hr1 : Kd.C Kd.string w A1 l1.length l1) (hc1 : l1.length ≤ c1) (h : laws_vTexts.f k l0 l1 = some r) :
  Calls Tryz.prog 21 #[.slice A0 l0.length c0, .slice A1 l1.length c1] w fun e w' => e = .returned (.bool r) ∧ Drawn0 w w' := by
 have HR0 := Aside0.mk hr0
 have HC0 := Aside0.mk hc0
 clear hr0 hc0
 have HR1 := Aside0.mk hr1
 have HC1 := Aside0.mk hc1
 clear hr1 hc1
 unfold laws_vTexts.f at h
 have H := h
 clear h
 by_cases c3 : (l0.length : Int) = (l1.length : Int)
 ·rw [if_pos c3] at H
  have c3b0 : ((l0.length : Int) == (l1.length : Int)) = true := beq_iff_eq.mpr c3
  have c3b1 : ((l0.length : Int) != (l1.length : Int)) = false := bne_eq_false_iff_eq.mpr c3
  have c3b2 : (l0.length == l1.length) = true := by first | simpa using c3 | (simp at c3 ⊢; omega)
  clear c3
  have H' := Aside0.mk H
  clear H
  go_enter Tryz.func21, Tryz.ntmps21
  go_wp2
  repeat (go_quiet (fail); try go_wp2)
  go_loopg [13] k (fun kq v13 w' => ∃ (x13_1 : Int), v13 = .int .i64 x13_1 ∧ Aside0 (laws_vTexts.l0 kq l0 l1 (l0.length : Int) x13_1 = some r) ∧ Aside0 (kq ≤ k) ∧ Drawn0 w w')
  case atStart => exact ⟨(0), (rs), H', ⟨Nat.le_refl _⟩, by repeat (first | exact Drawn0.refl _ | apply Drawn0.step)⟩
  case round =>
   clear H'
   try clear c1
   try clear c2
   try clear p2
   try clear c3
   try clear c3b0
   try clear c3b1
   try clear c3b2
   obtain ⟨x13_1, rfl, HA, HK1, ⟨m1, rfl⟩⟩ := hrel
   cases gk with
   | zero => exact absurd HA.out (by simp [laws_vTexts.l0])
   | succ k1 =>
    have H := HA.out
    clear HA
    simp only [laws_vTexts.l0] at H
    by_cases c4 : x13_1 < (l0.length : Int)
    ·rw [if_pos c4] at H
     have c4b0 := decide_eq_true c4
     clear c4
     obtain ⟨c5, H⟩ := oi H
     have c5b0 := decide_eq_true c5
     clear c5
     obtain ⟨c6, H⟩ := oi H
     have c6b0 := decide_eq_true c6
     clear c6
     obtain ⟨c7, H⟩ := oi H
     have c7b0 := decide_eq_true c7
     clear c7
     by_cases c8 : (rdOf ByteArray.empty l0 x13_1).toList = (rdOf ByteArray.empty l1 x13_1).toList
     ·rw [if_pos c8] at H
      have c8b0 : ((rdOf ByteArray.empty l0 x13_1).toList == (rdOf ByteArray.empty l1 x13_1).toList) = true := beq_iff_eq.mpr c8
      have c8b1 : ((rdOf ByteArray.empty l0 x13_1).toList != (rdOf ByteArray.empty l1 x13_1).toList) = false := bne_eq_false_iff_eq.mpr c8
      clear c8
      have H' := Aside0.mk H
      clear H
      have p491 : 0 ≤ (x13_1 : Int) := of_decide_eq_true asm
      have q491 : x13_1 < (l0.length : Int) := of_decide_eq_true asm
      obtain ⟨ad491, e491, hx491_0⟩ := Kd.at_string HR0.out x13_1 p491 q491
      cases e491
      replace p491 := eq_true p491
      replace q491 := eq_true q491
      have p492 : 0 ≤ (x13_1 : Int) := of_decide_eq_true asm
      have q492 : x13_1 < (l1.length : Int) := of_decide_eq_true asm
      obtain ⟨ad492, e492, hx492_0⟩ := Kd.at_string HR1.out x13_1 p492 q492
      cases e492
      replace p492 := eq_true p492
      replace q492 := eq_true q492
      go_wp2
      repeat (go_quiet (fail); try go_wp2)
      go_roundg k1
      case measure => have := HK1.out; omega
      case rel => exact ⟨(wrap64 (x13_1 + 1)), (rs), H', ⟨by have := HK1.out; omega⟩, by repeat (first | exact Drawn0.refl _ | apply Drawn0.step)⟩
     rw [if_neg c8] at H
     have c8b0 : ((rdOf ByteArray.empty l0 x13_1).toList == (rdOf ByteArray.empty l1 x13_1).toList) = false := beq_eq_false_iff_ne.mpr c8
     have c8b1 : ((rdOf ByteArray.empty l0 x13_1).toList != (rdOf ByteArray.empty l1 x13_1).toList) = true := bne_iff_ne.mpr c8
     obtain rfl := Option.some.inj H
     have p491 : 0 ≤ (x13_1 : Int) := of_decide_eq_true asm
     have q491 : x13_1 < (l0.length : Int) := of_decide_eq_true asm
     obtain ⟨ad491, e491, hx491_0⟩ := Kd.at_string HR0.out x13_1 p491 q491
     cases e491
     replace p491 := eq_true p491
     replace q491 := eq_true q491
     have p492 : 0 ≤ (x13_1 : Int) := of_decide_eq_true asm
     have q492 : x13_1 < (l1.length : Int) := of_decide_eq_true asm
     obtain ⟨ad492, e492, hx492_0⟩ := Kd.at_string HR1.out x13_1 p492 q492
     cases e492
     replace p492 := eq_true p492
     replace q492 := eq_true q492
     go_wp2
     repeat (go_quiet (fail); try go_wp2)
     go_ret
     exact ⟨rs, by repeat (first | exact Drawn0.refl _ | apply Drawn0.step)⟩
    rw [if_neg c4] at H
    have c4b0 := decide_eq_false c4
    clear c4
    obtain rfl := Option.some.inj H
    go_wp2
    repeat (go_quiet (fail); try go_wp2)
    go_ret
    exact ⟨rs, by repeat (first | exact Drawn0.refl _ | apply Drawn0.step)⟩
 rw [if_neg c3] at H
 have c3b0 : ((l0.length : Int) == (l1.length : Int)) = false := beq_eq_false_iff_ne.mpr c3
 have c3b1 : ((l0.length : Int) != (l1.length : Int)) = true := bne_iff_ne.mpr c3
 have c3b2 : (l0.length == l1.length) = false := by first | simpa using c3 | (simp at c3 ⊢; omega)
 obtain rfl := Option.some.inj H
 go_enter Tryz.func21, Tryz.ntmps21
 go_wp2
 repeat (go_quiet (fail); try go_wp2)
 go_ret
 exact ⟨rs, by repeat (first | exact Drawn0.refl _ | apply Drawn0.step)⟩

/-! ### spec_DrawAddClue: function 22 -/
def spec_DrawAddClue.f (k : Nat) (l0 : List Int) : Option (Int × (List (S37)) × Int × Int × Int × Int) := (spec_l1Cur_puzzle.f k l0 0 0).bind fun bt496 => ((spec_l1Cur_clue.f k l0 bt496.2.2.1 bt496.2.2.2).bind fun bt502 => (some (bt496.1, bt496.2.1, bt502.1, bt502.2.1, bt502.2.2.1, bt502.2.2.2.1)))
theorem spec_DrawAddClue.mono : ∀ a0 k, LeO (spec_DrawAddClue.f k a0) (spec_DrawAddClue.f (k + 1) a0) := by
  intro a0 k
  unfold spec_DrawAddClue.f
  repeat' first
      | (with_reducible exact spec_l1Cur_clue.mono _ _ _ _)
      | (with_reducible exact spec_l1Cur_puzzle.mono _ _ _ _)
      | (with_reducible exact LeO.refl _)
      | (with_reducible exact LeO.none _)
      | (with_reducible refine LeO.ite ?_ ?_)
      | (with_reducible refine LeO.bind ?_ (fun _ => ?_))
      | exact spec_l1Cur_clue.mono _ _ _ _
      | exact spec_l1Cur_puzzle.mono _ _ _ _
      | exact LeO.none _
      | refine LeO.ite ?_ ?_
      | refine LeO.bind ?_ (fun _ => ?_)
set_option maxHeartbeats 8000000 in
set_option maxRecDepth 100000 in
theorem spec_DrawAddClue.calls (k : Nat) (A0 : Option Addr) (c0 : Nat) (l0 : List Int) (r1 : Int) (r2 : List (S37)) (r3 : Int) (r4 : Int) (r5 : Int) (r6 : Int) (w : World) (hr0 : Kd.C (Kd.int .u8) w A0 l0.length l0) (hc0 : l0.length ≤ c0) (h : spec_DrawAddClue.f k l0 = some (r1, r2, r3, r4, r5, r6)) :
  Calls Tryz.prog 22 #[.slice A0 l0.length c0] w fun e w' => ∃ v1_ : Value, e = .returned (.tuple #[.agg #[.int .i64 r1, v1_], .agg #[.int .i64 r3, .int .i64 r4, .int .i64 r5, .int .i64 r6]]) ∧ Kd.R k37 37 w' w.heap.size (fun _ => True) v1_ r2 ∧ Below w.heap.size w w' := by
 have hu28 := Tryz.underlying28
 have hu37 := Tryz.underlying37
 have hu66 := Tryz.underlying66
 have HR0 := Aside0.mk hr0
 have HC0 := Aside0.mk hc0
 clear hr0 hc0
 have HB := Aside0.mk (Below.refl w.heap.size w)
 unfold spec_DrawAddClue.f at h
 have H := h
 clear h
 obtain ⟨⟨t496, t497, t500, t501⟩, A2, H⟩ := ob H
 (try dsimp only at H)
 obtain ⟨⟨t502, t503, t504, t505, t506, t507⟩, A3, H⟩ := ob H
 (try dsimp only at H)
 simp only [Option.some.injEq, Prod.mk.injEq] at H
 obtain ⟨rfl, rfl, rfl, rfl, rfl, rfl⟩ := H
 go_enter Tryz.func22, Tryz.ntmps22
 go_wp2_with (first | ((with_reducible refine gd 2 ?_); refine bx 2 28 #[.int .i64 0, .slice none 0 0] ?_; intro gb493 hg w4 hbox hb; have BK493 := hbox; have GW493 := gs hg; have GE493 := gs hg; replace HB := bs hb; clear hb hbox hg) | ((with_reducible refine gd 3 ?_); refine bx 3 37 #[.int .i64 0, .int .i64 0, .int .i64 0, .int .i64 0] ?_; intro gb494 hg w5 hbox hb; have BK494 := hbox; have GW494 := gs hg; have GE494 := gs hg; replace HB := bs hb; have ⟨NB493_494, NB494_493⟩ := nn BK493 hg; replace BK493 := nk BK493 hb; clear hb hbox hg) | ((with_reducible refine gd 7 ?_); refine box_event ?hg (N := 7) ?hd (cs := #[.slice A0 l0.length c0, .int .i64 0, .int .u64 0]) (t := 66) ?hr ?_; (case hd => rfl); (case hg => rfl); (case hr => first | (go_simp; done) | (go_simp; rfl)); intro gb495 hg w6 hbox hb; have GW495 := gs hg; have GE495 := gs hg; have ⟨NB493_495, NB495_493⟩ := nn BK493 hg; replace BK493 := nk BK493 hb; have ⟨NB494_495, NB495_494⟩ := nn BK494 hg; replace BK494 := nk BK494 hb; have HI495 := Aside0.mk ((show IsS66 w _ gb495 l0 0 0 from ⟨_, _, hbox, (by rw [hg]; exact (below_size bw)), HR0.out⟩)); replace HB := bs hb; clear hb hbox hg) | ((with_reducible refine gc 56 ?_); refine gl (some 9) Tryz.func56 #[.pointer (some ⟨gb495, 0, none⟩)] ?_; (with_reducible refine (spec_l1Cur_puzzle.calls k gb495 l0 0 0 t496 t497 t500 t501 w _ ?_ ?_ A2.out).mono ?_); exact hi66; exact hb66; rintro e w7 ⟨v498, rfl, ho0, hi, hb, hk⟩; refine ⟨_, rfl, ?_⟩; replace BK493 := kb hk BK493 NB493_495; have HO499 := Aside0.mk (Kd.R_lower (Kd.R_newB ho0 (pk BK494)) (below_size hb66)); replace BK494 := kb hk BK494 NB494_495; replace HB := Aside0.mk (hb); replace HI495 := Aside0.mk (hi); (try clear hb); (try clear ho0)) | ((with_reducible refine gc 64 ?_); refine gl (some 11) Tryz.func64 #[.pointer (some ⟨gb495, 0, none⟩)] ?_; (with_reducible refine (spec_l1Cur_clue.calls k gb495 l0 t500 t501 t502 t503 t504 t505 t506 t507 w _ ?_ ?_ A3.out).mono ?_); exact hi66; exact hb66; rintro e w8 ⟨rfl, hi, hb, hk⟩; refine ⟨_, rfl, ?_⟩; replace BK493 := kb hk BK493 NB493_495; replace BK494 := kb hk BK494 NB494_495; replace HO499 := Aside0.mk (Kd.R_mono (Kd.R_keep (IsS66.apart (show IsS66 w _ gb495 l0 t500 t501 from hi66) (pr HO499) (by decide)) hk (fun _ h => h.2)) (fun _ h => h.1)); replace HB := Aside0.mk (hb); replace HI495 := Aside0.mk (hi); (try clear hb); have hnb9 := nb NB493_494; have hnb10 := nb NB493_495; have hz11 := z2 BK493; obtain ⟨Ao12, co12, eo12⟩ := Kd.R_slice HO499.out; subst eo12; have hnb13 := nb NB494_495; have hz14 := z4 BK494))
 refine bodyPost_ret (results_cc rfl _ _ gb493 gb494 28 37 #[.int .i64 t496, .slice Ao12 t497.length co12] #[.int .i64 t502, .int .i64 t503, .int .i64 t504, .int .i64 t505] (0, 0) (0, 0) _ _ rfl (pz BK493) Tryz.underlying28 rfl (by kernel_rfl) rfl (pz BK494) Tryz.underlying37 rfl (by kernel_rfl)) rfl ?_
 exact ⟨_, rs, by (with_reducible repeat (first | apply Kd.R_alloc | apply Kd.R_drewN | apply Kd.R_drew)); exact Kd.R_mono (Kd.R_far (p := ⟨gb494, 3, none⟩) (Kd.R_far (p := ⟨gb494, 2, none⟩) (Kd.R_far (p := ⟨gb494, 1, none⟩) (Kd.R_far (p := ⟨gb494, 0, none⟩) (Kd.R_far (p := ⟨gb493, 1, none⟩) (Kd.R_far (p := ⟨gb493, 0, none⟩) (Kd.R_mono (Kd.R_types HO499.out BK493.out (by decide)) (fun k_ hk => (⟨hk, hk.1.2⟩ : _ ∧ k_ ≠ gb494))) (fun _ hk => hk.1.2) (.int .i64 t496)) (fun _ hk => hk.1.2) (.slice Ao12 t497.length co12)) (fun _ hk => hk.2) (.int .i64 t502)) (fun _ hk => hk.2) (.int .i64 t503)) (fun _ hk => hk.2) (.int .i64 t504)) (fun _ hk => hk.2) (.int .i64 t505)) (fun _ hk => trivial), hb66⟩

end Go.Proofs.YthjbmojacgkdcaaGreatDoor.PFnRowsHidden
