-- Laid by xprint, a program of this session that runs over the kit's print.
import Derived.Test.YtonhhfhlhlifcaaGreatDoorPFnRowsHiddenOfAllx12
namespace Go.Proofs.YtonhhfhlhlifcaaGreatDoor.PFnRowsHiddenOfAll
open Go.RowKit Go.Proofs.YtonhhfhlhlifcaaGreatDoorW.PrintWords Go.Proofs.YtonhhfhlhlifcaaGreatDoorW.PrintLast Go.Proofs.YtonhhfhlhlifcaaGreatDoorW.PrintMore Go.Proofs.YtonhhfhlhlifcaaGreatDoor.Sq
attribute [local go_sem] max2_int min2_int max_two min_two max_three min_three max_four min_four   -- for this text's walks alone
set_option linter.unusedVariables false
set_option linter.unusedSimpArgs false

/-! ### impl_NeedlessClues: function 17 -/
def impl_NeedlessClues.l0 : Nat → List ByteArray → List Int → Int → Int → Int → List (S26) → Option (List Int × Bool)
  | 0, _, _, _, _, _, _ => none
  | k + 1, x4, x6, x18, x19, x302000, x302001 => if x19 < x18 then ((impl_without.f x302001 x19).bind fun t309 => ((impl_solutions.f k x302000 t309).bind fun t312 => (if (t312.length : Int) = (x4.length : Int) then (if x6.length < 17592186044416 then (impl_NeedlessClues.l0 k x4 (x6 ++ [x19]) x18 (wrap64 (x19 + 1)) x302000 x302001) else (none)) else (impl_NeedlessClues.l0 k x4 x6 x18 (wrap64 (x19 + 1)) x302000 x302001)))) else (some (x6, true))
def impl_NeedlessClues.f (k : Nat) (a0_0 : Int) (l0_1 : List (S26)) : Option (List Int × Bool) := (impl_Solutions.f k a0_0 l0_1).bind fun bt302 => (if bt302.2 = true then (impl_NeedlessClues.l0 k bt302.1 (([] : List Int)) (l0_1.length : Int) 0 a0_0 l0_1) else (some (([] : List Int), false)))
theorem impl_NeedlessClues.mono_l : ∀ k, (∀ y0 y1 y2 y3 y4 y5, LeO (impl_NeedlessClues.l0 k y0 y1 y2 y3 y4 y5) (impl_NeedlessClues.l0 (k + 1) y0 y1 y2 y3 y4 y5))
  | 0 => fun _ _ _ _ _ _ r h => by simp [impl_NeedlessClues.l0] at h
  | k + 1 => by
    have ih0 := impl_NeedlessClues.mono_l k
    · intro y0 y1 y2 y3 y4 y5
      unfold impl_NeedlessClues.l0
      repeat' first
      | (with_reducible exact ih0 _ _ _ _ _ _)
      | (with_reducible exact impl_Solutions.mono _ _ _)
      | (with_reducible exact impl_solutions.mono _ _ _)
      | (with_reducible exact LeO.refl _)
      | (with_reducible exact LeO.none _)
      | (with_reducible refine LeO.ite ?_ ?_)
      | (with_reducible refine LeO.bind ?_ (fun _ => ?_))
      | exact ih0 _ _ _ _ _ _
      | exact impl_Solutions.mono _ _ _
      | exact impl_solutions.mono _ _ _
      | exact LeO.none _
      | refine LeO.ite ?_ ?_
      | refine LeO.bind ?_ (fun _ => ?_)
theorem impl_NeedlessClues.mono : ∀ a0 a1 k, LeO (impl_NeedlessClues.f k a0 a1) (impl_NeedlessClues.f (k + 1) a0 a1) := by
  intro a0 a1 k
  have ih0 := impl_NeedlessClues.mono_l k
  unfold impl_NeedlessClues.f
  repeat' first
      | (with_reducible exact ih0 _ _ _ _ _ _)
      | (with_reducible exact impl_Solutions.mono _ _ _)
      | (with_reducible exact impl_solutions.mono _ _ _)
      | (with_reducible exact LeO.refl _)
      | (with_reducible exact LeO.none _)
      | (with_reducible refine LeO.ite ?_ ?_)
      | (with_reducible refine LeO.bind ?_ (fun _ => ?_))
      | exact ih0 _ _ _ _ _ _
      | exact impl_Solutions.mono _ _ _
      | exact impl_solutions.mono _ _ _
      | exact LeO.none _
      | refine LeO.ite ?_ ?_
      | refine LeO.bind ?_ (fun _ => ?_)
def impl_NeedlessClues.T8 : Bool × List (List Nat × List Nat) := (true, [([], []), ([0], [0]), ([], []), ([2], [2]), ([], []), ([3, 4], [3, 4]), ([1, 5, 5], [1, 5]), ([6], [6]), ([], []), ([8], [8]), ([7, 9], [7, 9])])
def impl_NeedlessClues.B8 : List Nat := [0, 1, 0, 4, 0, 28, 63, 127, 0, 256, 1023]
theorem impl_NeedlessClues.tab8 : rtab .any (opsOf Tryz.f17 8) = impl_NeedlessClues.T8 := by kernel_rfl
theorem impl_NeedlessClues.bits8 : waitsOk impl_NeedlessClues.T8.2 impl_NeedlessClues.B8 = true := by kernel_rfl
set_option maxHeartbeats 8000000 in
set_option maxRecDepth 100000 in
theorem impl_NeedlessClues.calls (k : Nat) (a0_0 : Int) (A0_1 : Option Addr) (c0_1 : Nat) (l0_1 : List (S26)) (r1 : List Int) (r2 : Bool) (w : World) (hm : Dr.Tab w) (hr0_1 : Kd.C k26 w A0_1 l0_1.length l0_1) (hc0_1 : l0_1.length ≤ c0_1) (h : impl_NeedlessClues.f k a0_0 l0_1 = some (r1, r2)) :
  Calls Tryz.prog 17 #[.agg #[.int .i64 a0_0, .slice A0_1 l0_1.length c0_1]] w fun e w' => ∃ v0_ : Value, e = .returned (.tuple #[v0_, .bool r2]) ∧ Kd.R (Kd.int .i64) 3 w' w.heap.size (fun _ => True) v0_ r1 ∧ Below w.heap.size w w' := by
 have hu24 := Tryz.underlying24
 have HR0_1 := Aside0.mk hr0_1
 have HC0_1 := Aside0.mk hc0_1
 clear hr0_1 hc0_1
 have HB := Aside0.mk (Below.refl w.heap.size w)
 have HMM := Aside0.mk hm
 clear hm
 unfold impl_NeedlessClues.f at h
 have H := h
 clear h
 obtain ⟨⟨t302, t305⟩, A2, H⟩ := ob H
 (try dsimp only at H)
 go_enter Tryz.func17, Tryz.ntmps17
 go_wp2_with (((with_reducible refine gd 1 ?_); refine bx 1 24 #[.int .i64 a0_0, .slice A0_1 l0_1.length c0_1] ?_; intro gb301 hg w4 hbox hb; have BK301 := hbox; have GW301 := gs hg; have GE301 := gs hg; replace HB := bs hb; clear hb hbox hg; obtain ⟨hcz5_0, hcz5_1, hfz5_0, hfz5_1⟩ := z2 BK301; refine halt ?_))
 by_cases c3 : t305 = true
 ·subst c3
  rw [if_pos rfl] at H
  obtain ⟨y306, hy306⟩ : ∃ y_ : List Int, y_ = (([] : List Int)) := ⟨_, rfl⟩
  replace H : (impl_NeedlessClues.l0 k t302 y306 (l0_1.length : Int) 0 a0_0 l0_1) = some (r1, r2) := by first | (rw [hy306]; with_reducible exact H) | (have H2_ := (Option.bind_some _ _).symm.trans H; rw [hy306]; with_reducible exact H2_) | (have H2_ := (Option.bind_some _ _).symm.trans H; with_reducible exact H2_) | with_reducible exact H | (rw [hy306]; exact H) | exact H
  have Ny306 := Aside0.mk hy306
  clear hy306
  have H' := Aside0.mk H
  clear H
  refine Aside0.mk ?_
  try go_wp2_with (first | ((with_reducible refine gc 16 ?_); refine gl (some 10) Tryz.func16 #[.agg #[.int .i64 a0_0, .slice A0_1 l0_1.length c0_1]] ?_; (with_reducible refine (impl_Solutions.calls k a0_0 _ _ l0_1 t302 true _ ?_ ?_ ?_ A2.out).mono ?_); exact Dr.mm HMM; exact cb HR0_1; exact HC0_1.out; rintro e w6 ⟨v303, rfl, ho0, hb⟩; refine ⟨_, rfl, ?_⟩; have HO304 := Aside0.mk (Kd.R_lower ho0 (below_size bw)); replace BK301 := nk BK301 hb; replace HB := bs hb; (try clear hb); (try clear ho0)) | ((with_reducible refine gd 15 ?_); refine Kd.R_lit (Kd.int .i64) _ 3 ?hg (N := 15) ?hd (xs := ([] : List Int)) (inner := []) (ok := fun _ => True) (okp := fun _ => True) ?hr ?hp (fun _ hk => hk) trivial (Below.refl _ _) (Nat.le_refl _) (by simp) ?_; (case hd => rfl); (case hg => rfl); (case hr => first | (go_simp; done) | (go_simp; rfl)); (case hp => exact (Reps.none _ _)); intro v307 w7 ho8 hb hg_ hnew_; clear hg_ hnew_; (first | rw [← Ny306.out] at ho8 | (simp only [Int.reduceToNat] at ho8; rw [← Ny306.out] at ho8)); replace HO304 := rl HO304 hb; have HO308 := Aside0.mk (Kd.R_lower ho8 (below_size bw)); replace BK301 := nk BK301 hb; replace HB := bs hb; clear hb ho8; obtain ⟨hcz9_0, hcz9_1, hfz9_0, hfz9_1⟩ := z2 BK301))
  go_loopg [6, 19] k (fun kq v6 v19 w' => ∃ (x6_1 : List Int) (x19_1 : Int), v19 = .int .i64 x19_1 ∧ Aside0 (impl_NeedlessClues.l0 kq t302 x6_1 (l0_1.length : Int) x19_1 a0_0 l0_1 = some (r1, r2)) ∧ Aside0 (kq ≤ k) ∧ Aside0 (Kd.R Kd.string 9 w' w.heap.size (fun _ => True) v303 t302) ∧ Aside0 (Kd.R (Kd.int .i64) 3 w' w.heap.size (fun _ => True) v6 x6_1) ∧ Aside0 (w'.heap[gb301]? = some (.cells #[.int .i64 a0_0, (.slice A0_1 l0_1.length c0_1)] 24 (0, 0))) ∧ Aside0 (Below w.heap.size w w'))
  case atStart => exact ⟨(y306), (0), (rs), H', ⟨Nat.le_refl _⟩, ⟨pr HO304⟩, ⟨pr HO308⟩, ⟨pk BK301⟩, ⟨bw⟩⟩
  case round =>
   clear H'
   try clear c1
   try clear p2
   try clear c3
   try clear hcz5_0
   try clear hcz5_1
   try clear hcz9_0
   try clear hcz9_1
   try clear hfz5_0
   try clear hfz5_1
   try clear hfz9_0
   try clear hfz9_1
   obtain ⟨x6_1, x19_1, rfl, HA, HK1, HO_4, HO_6, BK301, HB⟩ := hrel
   cases gk with
   | zero => exact absurd HA.out (by simp [impl_NeedlessClues.l0])
   | succ k1 =>
    have H := HA.out
    clear HA
    simp only [impl_NeedlessClues.l0] at H
    by_cases c10 : x19_1 < (l0_1.length : Int)
    ·rw [if_pos c10] at H
     have c10b0 := decide_eq_true c10
     clear c10
     obtain ⟨t309, A11, H⟩ := ob H
     (try dsimp only at H)
     obtain ⟨t312, A12, H⟩ := ob H
     (try dsimp only at H)
     by_cases c13 : (t312.length : Int) = (t302.length : Int)
     ·rw [if_pos c13] at H
      have c13b0 : ((t312.length : Int) == (t302.length : Int)) = true := beq_iff_eq.mpr c13
      have c13b1 : ((t312.length : Int) != (t302.length : Int)) = false := bne_eq_false_iff_eq.mpr c13
      have c13b2 : (t312.length == t302.length) = true := by first | simpa using c13 | (simp at c13 ⊢; omega)
      clear c13
      obtain ⟨c14, H⟩ := oi H
      have LMc14 := Aside0.mk c14
      clear c14
      obtain ⟨y315, hy315⟩ : ∃ y_ : List Int, y_ = (x6_1 ++ [x19_1]) := ⟨_, rfl⟩
      replace H : (impl_NeedlessClues.l0 k1 t302 y315 (l0_1.length : Int) (wrap64 (x19_1 + 1)) a0_0 l0_1) = some (r1, r2) := by first | (rw [hy315]; with_reducible exact H) | (have H2_ := (Option.bind_some _ _).symm.trans H; rw [hy315]; with_reducible exact H2_) | (have H2_ := (Option.bind_some _ _).symm.trans H; with_reducible exact H2_) | with_reducible exact H | (rw [hy315]; exact H) | exact H
      have Ny315 := Aside0.mk hy315
      clear hy315
      have H' := Aside0.mk H
      clear H
      try go_wp2
      replace HO_4 := Aside0.mk (Kd.R_drew HO_4.out)
      replace HO_6 := Aside0.mk (Kd.R_drew HO_6.out)
      replace BK301 := Aside0.mk (blk_drew BK301.out)
      replace HB := Aside0.mk (below_drew1 HB.out)
      obtain ⟨Ao16, co16, eo16⟩ := Kd.R_slice HO_4.out
      (first | subst eo16 | (injection eo16 with f1_ f2_ f3_; have f4_ := f1_.symm; have f5_ := f3_.symm; clear f1_ f2_ f3_; subst f4_; subst f5_))
      refine start_ (n := 11) (S := fun w' => w'.cell? ⟨gb301, 0, none⟩ = some (.int .i64 a0_0) ∧ w'.cell? ⟨gb301, 1, none⟩ = some (.slice A0_1 l0_1.length c0_1)) (ds := []) (tb 11 0) (by kernel_rfl) rfl rfl ⟨ec BK301, ec BK301⟩ (fun hHeld => ?_); refine with_tabW impl_NeedlessClues.tab8 impl_NeedlessClues.bits8 (fun HT_ HW_ => ?_)
      generalize wr.drew = w15 at HO_4 HO_6 BK301 HB hHeld ⊢
      refine pu 0 (some 22) (tb 11 1) ?_
      refine pu 2 (some 24) (tb 11 5) ?_
      refine pu 4 (some 26) (tb 11 21) ?_
      refine pu 8 (some 30) (tb 11 277) ?_
      refine pu 9 (some 31) (tb 11 789) ?_
      refine tk 1 (some 23) (tb 11 791) hHeld ?_
      refine tk 3 (some 25) (tb 11 799) hHeld ?_
      refine one_ (i := 5) (N := some 27) (tb 11 831) rfl rfl (one_of HT_.out (by kernel_rfl)) (by decide) (fun K hK => ?_)
      refine go1 Tryz.func45 #[.slice A0_1 l0_1.length c0_1, .int .i64 x19_1] ?_
      with_reducible refine (impl_without.calls _ _ l0_1 x19_1 t309 _ ?side1 ?side2 A11.out).mono ?_
      (case side1 => exact cb HR0_1)
      (case side2 => exact HC0_1.out)
      rintro e w17 ⟨v310, rfl, ho0, hb⟩
      refine ⟨_, rfl, ?_⟩
      replace HO_4 := rl HO_4 hb
      replace HO_6 := rl HO_6 hb
      have HO311 := Aside0.mk (Kd.R_lower ho0 (below_size bw))
      replace BK301 := nk BK301 hb
      replace HB := bs hb
      (try clear hb)
      (try clear ho0)
      obtain ⟨Ao18, co18, eo18⟩ := Kd.R_slice HO311.out
      (first | subst eo18 | (injection eo18 with f1_ f2_ f3_; have f4_ := f1_.symm; have f5_ := f3_.symm; clear f1_ f2_ f3_; subst f4_; subst f5_))
      refine hK.out _ _ ⟨ec BK301, ec BK301⟩ (fun hHeld => ?_)
      clear hK K
      refine nm (some 27) ?_
      refine one_ (i := 6) (N := some 28) (tb 11 895) rfl rfl (one_of HT_.out (by kernel_rfl)) (by decide) (fun K hK => ?_)
      refine go1 Tryz.func46 #[.int .i64 a0_0, .slice Ao18 t309.length co18] ?_
      with_reducible refine (impl_solutions.calls k1 a0_0 _ _ t309 t312 _ ?side1 ?side2 ?side3 A12.out).mono ?_
      (case side1 => exact Dr.mm HMM)
      (case side2 => exact rr HO311)
      (case side3 => exact rn HO311)
      rintro e w19 ⟨v313, rfl, ho0, hb⟩
      refine ⟨_, rfl, ?_⟩
      replace HO_6 := rl HO_6 hb
      replace HO311 := rl HO311 hb
      have HO314 := Aside0.mk (Kd.R_lower (Kd.R_new' ho0 (Kd.R_lt (pr HO_4))) (below_size bw))
      replace HO_4 := re HO_4 ho0 hb
      replace BK301 := nk BK301 hb
      replace HB := bs hb
      (try clear hb)
      (try clear ho0)
      obtain ⟨Ao20, co20, eo20⟩ := Kd.R_slice HO314.out
      (first | subst eo20 | (injection eo20 with f1_ f2_ f3_; have f4_ := f1_.symm; have f5_ := f3_.symm; clear f1_ f2_ f3_; subst f4_; subst f5_))
      refine hK.out _ _ ⟨ec BK301, ec BK301⟩ (fun hHeld => ?_)
      clear hK K
      refine nm (some 28) ?_
      refine pu 7 (some 29) (tb 11 1023) ?_
      refine pu 10 (some 32) (tb 11 2047) ?_
      refine done_ (done_of HT_.out (by kernel_rfl)) ?_
      try go_wp2_with (first | ((with_reducible refine gate_builtin (b := .append) (xs := #[.tmp 33, .tmp 35]) rfl ?_); at_builtin; refine Kd.R_append (Kd.int .i64) (w0 := w) w.heap.size rfl (.tmp 33) (.tmp 35) 34 3 (.int .i64 0) 8 rfl Tryz.underlying34 info3 rfl (by decide) (by omega) u6 x6_1 x19_1 [.int .i64 x19_1] (fun _ => True) (fun _ => False) rfl rfl ?aP (fun _ hk => hk.elim) ?aF ?aO ?aB ?aS ?aL ?_; (case aP => exact rfl); (case aB => exact bw); (case aF => exact (fun _ _ => trivial)); (case aO => exact (pr HO_6)); (case aS => exact (below_size bw)); (case aL => have := LMc14.out; omega); intro v316 w21 ho hb hg hat; rw [← Ny315.out] at ho; have n0_ := Aside0.mk (Kd.R_over' (pr HO_4) (Kd.R_typed (pr HO_6)) (by decide) hg); have n1_ := Aside0.mk (blk_grown (pk BK301) hg (Kd.R_ne HO_6.out BK301.out (by decide))); have n2_ := Aside0.mk (Kd.R_over' (pr HO311) (Kd.R_typed (pr HO_6)) (by decide) hg); have n3_ := Aside0.mk (Kd.R_over' (pr HO314) (Kd.R_typed (pr HO_6)) (by decide) hg); have n4_ := Aside0.mk (hb); have n5_ := Aside0.mk (ho); clear HO_4; clear BK301; clear HO311; clear HO314; clear HB; clear HO_6; have HO_4 := n0_; have BK301 := n1_; have HO311 := n2_; have HO314 := n3_; have HB := n4_; have HO317 := n5_; clear n0_ n1_ n2_ n3_ n4_ n5_; clear ho hb hg hat))
      go_roundg k1
      case measure => have := HK1.out; omega
      case rel => exact ⟨(y315), (wrap64 (x19_1 + 1)), (rs), H', ⟨by have := HK1.out; omega⟩, ⟨by (with_reducible repeat (first | apply Kd.R_alloc | apply Kd.R_drewN | apply Kd.R_drew)); exact Kd.R_mono HO_4.out (fun _ hk => trivial)⟩, ⟨pr HO317⟩, ⟨pk BK301⟩, ⟨bw⟩⟩
     rw [if_neg c13] at H
     have c13b0 : ((t312.length : Int) == (t302.length : Int)) = false := beq_eq_false_iff_ne.mpr c13
     have c13b1 : ((t312.length : Int) != (t302.length : Int)) = true := bne_iff_ne.mpr c13
     have c13b2 : (t312.length == t302.length) = false := by first | simpa using c13 | (simp at c13 ⊢; omega)
     have H' := Aside0.mk H
     clear H
     try go_wp2
     replace HO_4 := Aside0.mk (Kd.R_drew HO_4.out)
     replace HO_6 := Aside0.mk (Kd.R_drew HO_6.out)
     replace BK301 := Aside0.mk (blk_drew BK301.out)
     replace HB := Aside0.mk (below_drew1 HB.out)
     obtain ⟨Ao23, co23, eo23⟩ := Kd.R_slice HO_4.out
     (first | subst eo23 | (injection eo23 with f1_ f2_ f3_; have f4_ := f1_.symm; have f5_ := f3_.symm; clear f1_ f2_ f3_; subst f4_; subst f5_))
     refine start_ (n := 11) (S := fun w' => w'.cell? ⟨gb301, 0, none⟩ = some (.int .i64 a0_0) ∧ w'.cell? ⟨gb301, 1, none⟩ = some (.slice A0_1 l0_1.length c0_1)) (ds := []) (tb 11 0) (by kernel_rfl) rfl rfl ⟨ec BK301, ec BK301⟩ (fun hHeld => ?_); refine with_tabW impl_NeedlessClues.tab8 impl_NeedlessClues.bits8 (fun HT_ HW_ => ?_)
     generalize wr.drew = w22 at HO_4 HO_6 BK301 HB hHeld ⊢
     refine pu 0 (some 22) (tb 11 1) ?_
     refine pu 2 (some 24) (tb 11 5) ?_
     refine pu 4 (some 26) (tb 11 21) ?_
     refine pu 8 (some 30) (tb 11 277) ?_
     refine pu 9 (some 31) (tb 11 789) ?_
     refine tk 1 (some 23) (tb 11 791) hHeld ?_
     refine tk 3 (some 25) (tb 11 799) hHeld ?_
     refine one_ (i := 5) (N := some 27) (tb 11 831) rfl rfl (one_of HT_.out (by kernel_rfl)) (by decide) (fun K hK => ?_)
     refine go1 Tryz.func45 #[.slice A0_1 l0_1.length c0_1, .int .i64 x19_1] ?_
     with_reducible refine (impl_without.calls _ _ l0_1 x19_1 t309 _ ?side1 ?side2 A11.out).mono ?_
     (case side1 => exact cb HR0_1)
     (case side2 => exact HC0_1.out)
     rintro e w24 ⟨v310, rfl, ho0, hb⟩
     refine ⟨_, rfl, ?_⟩
     replace HO_4 := rl HO_4 hb
     replace HO_6 := rl HO_6 hb
     have HO311 := Aside0.mk (Kd.R_lower ho0 (below_size bw))
     replace BK301 := nk BK301 hb
     replace HB := bs hb
     (try clear hb)
     (try clear ho0)
     obtain ⟨Ao25, co25, eo25⟩ := Kd.R_slice HO311.out
     (first | subst eo25 | (injection eo25 with f1_ f2_ f3_; have f4_ := f1_.symm; have f5_ := f3_.symm; clear f1_ f2_ f3_; subst f4_; subst f5_))
     refine hK.out _ _ ⟨ec BK301, ec BK301⟩ (fun hHeld => ?_)
     clear hK K
     refine nm (some 27) ?_
     refine one_ (i := 6) (N := some 28) (tb 11 895) rfl rfl (one_of HT_.out (by kernel_rfl)) (by decide) (fun K hK => ?_)
     refine go1 Tryz.func46 #[.int .i64 a0_0, .slice Ao25 t309.length co25] ?_
     with_reducible refine (impl_solutions.calls k1 a0_0 _ _ t309 t312 _ ?side1 ?side2 ?side3 A12.out).mono ?_
     (case side1 => exact Dr.mm HMM)
     (case side2 => exact rr HO311)
     (case side3 => exact rn HO311)
     rintro e w26 ⟨v313, rfl, ho0, hb⟩
     refine ⟨_, rfl, ?_⟩
     replace HO_6 := rl HO_6 hb
     replace HO311 := rl HO311 hb
     have HO314 := Aside0.mk (Kd.R_lower (Kd.R_new' ho0 (Kd.R_lt (pr HO_4))) (below_size bw))
     replace HO_4 := re HO_4 ho0 hb
     replace BK301 := nk BK301 hb
     replace HB := bs hb
     (try clear hb)
     (try clear ho0)
     obtain ⟨Ao27, co27, eo27⟩ := Kd.R_slice HO314.out
     (first | subst eo27 | (injection eo27 with f1_ f2_ f3_; have f4_ := f1_.symm; have f5_ := f3_.symm; clear f1_ f2_ f3_; subst f4_; subst f5_))
     refine hK.out _ _ ⟨ec BK301, ec BK301⟩ (fun hHeld => ?_)
     clear hK K
     refine nm (some 28) ?_
     refine pu 7 (some 29) (tb 11 1023) ?_
     refine pu 10 (some 32) (tb 11 2047) ?_
     refine done_ (done_of HT_.out (by kernel_rfl)) ?_
     try go_wp2
     go_roundg k1
     case measure => have := HK1.out; omega
     case rel => exact ⟨(x6_1), (wrap64 (x19_1 + 1)), (rs), H', ⟨by have := HK1.out; omega⟩, ⟨by (with_reducible repeat (first | apply Kd.R_alloc | apply Kd.R_drewN | apply Kd.R_drew)); exact Kd.R_mono HO_4.out (fun _ hk => trivial)⟩, ⟨pr HO_6⟩, ⟨pk BK301⟩, ⟨bw⟩⟩
    rw [if_neg c10] at H
    have c10b0 := decide_eq_false c10
    clear c10
    simp only [Option.some.injEq, Prod.mk.injEq] at H
    obtain ⟨rfl, rfl⟩ := H
    go_wp2
    go_ret2
    exact ⟨_, rs, pr HO_6, bw⟩
 replace c3 := Bool.eq_false_iff.mpr c3
 subst c3
 rw [if_neg (show ¬ (false = true) by decide)] at H
 simp only [Option.some.injEq, Prod.mk.injEq] at H
 obtain ⟨rfl, rfl⟩ := H
 refine Aside0.mk ?_
 try go_wp2_with (((with_reducible refine gc 16 ?_); refine gl (some 10) Tryz.func16 #[.agg #[.int .i64 a0_0, .slice A0_1 l0_1.length c0_1]] ?_; (with_reducible refine (impl_Solutions.calls k a0_0 _ _ l0_1 t302 false _ ?_ ?_ ?_ A2.out).mono ?_); exact Dr.mm HMM; exact cb HR0_1; exact HC0_1.out; rintro e w30 ⟨v303, rfl, ho0, hb⟩; refine ⟨_, rfl, ?_⟩; have HO304 := Aside0.mk (Kd.R_lower ho0 (below_size bw)); replace HB := bs hb; (try clear hb); (try clear ho0)))
 go_ret2
 exact ⟨_, rs, by first | exact Kd.R_nil _ _ _ _ _ | exact Kd.N_nil _ _ _ _ _ | exact Kd.V_nil _ _ _ _ _ | exact Kd.Q_nil _ _ _ _ _ | exact Kd.S_nil _ _ _ _ _, bw⟩

/-! ### laws_vTexts: function 18 -/
def laws_vTexts.l0 : Nat → List ByteArray → List ByteArray → Int → Int → Option (Bool)
  | 0, _, _, _, _ => none
  | k + 1, x0, x1, x12, x13 => if x13 < x12 then (if 0 ≤ x13 then (if x13 < (x0.length : Int) then (if x13 < (x1.length : Int) then (if (rdOf ByteArray.empty x0 x13).toList = (rdOf ByteArray.empty x1 x13).toList then (laws_vTexts.l0 k x0 x1 x12 (wrap64 (x13 + 1))) else (some false)) else (none)) else (none)) else (none)) else (some true)
def laws_vTexts.f (k : Nat) (l0 : List ByteArray) (l1 : List ByteArray) : Option (Bool) := if (l0.length : Int) = (l1.length : Int) then (laws_vTexts.l0 k l0 l1 (l0.length : Int) 0) else (some false)
theorem laws_vTexts.mono_l : ∀ k, (∀ y0 y1 y2 y3, LeO (laws_vTexts.l0 k y0 y1 y2 y3) (laws_vTexts.l0 (k + 1) y0 y1 y2 y3))
  | 0 => fun _ _ _ _ r h => by simp [laws_vTexts.l0] at h
  | k + 1 => by
    have ih0 := laws_vTexts.mono_l k
    · intro y0 y1 y2 y3
      unfold laws_vTexts.l0
      repeat' first
      | (with_reducible exact ih0 _ _ _ _)
      | (with_reducible exact LeO.refl _)
      | (with_reducible exact LeO.none _)
      | (with_reducible refine LeO.ite ?_ ?_)
      | (with_reducible refine LeO.bind ?_ (fun _ => ?_))
      | exact ih0 _ _ _ _
      | exact LeO.none _
      | refine LeO.ite ?_ ?_
      | refine LeO.bind ?_ (fun _ => ?_)
theorem laws_vTexts.mono : ∀ a0 a1 k, LeO (laws_vTexts.f k a0 a1) (laws_vTexts.f (k + 1) a0 a1) := by
  intro a0 a1 k
  have ih0 := laws_vTexts.mono_l k
  unfold laws_vTexts.f
  repeat' first
      | (with_reducible exact ih0 _ _ _ _)
      | (with_reducible exact LeO.refl _)
      | (with_reducible exact LeO.none _)
      | (with_reducible refine LeO.ite ?_ ?_)
      | (with_reducible refine LeO.bind ?_ (fun _ => ?_))
      | exact ih0 _ _ _ _
      | exact LeO.none _
      | refine LeO.ite ?_ ?_
      | refine LeO.bind ?_ (fun _ => ?_)
set_option maxHeartbeats 8000000 in
set_option maxRecDepth 100000 in
theorem laws_vTexts.calls (k : Nat) (A0 : Option Addr) (c0 : Nat) (l0 : List ByteArray) (A1 : Option Addr) (c1 : Nat) (l1 : List ByteArray) (r : Bool) (w : World) (hr0 : Kd.C Kd.string w A0 l0.length l0) (hc0 : l0.length ≤ c0) (hr1 : Kd.C Kd.string w A1 l1.length l1) (hc1 : l1.length ≤ c1) (h : laws_vTexts.f k l0 l1 = some r) :
  Calls Tryz.prog 18 #[.slice A0 l0.length c0, .slice A1 l1.length c1] w fun e w' => e = .returned (.bool r) ∧ Drawn0 w w' := by
 have HR0 := Aside0.mk hr0
 have HC0 := Aside0.mk hc0
 clear hr0 hc0
 have HR1 := Aside0.mk hr1
 have HC1 := Aside0.mk hc1
 clear hr1 hc1
 unfold laws_vTexts.f at h
 have H := h
 clear h
 by_cases c3 : (l0.length : Int) = (l1.length : Int)
 ·rw [if_pos c3] at H
  have c3b0 : ((l0.length : Int) == (l1.length : Int)) = true := beq_iff_eq.mpr c3
  have c3b1 : ((l0.length : Int) != (l1.length : Int)) = false := bne_eq_false_iff_eq.mpr c3
  have c3b2 : (l0.length == l1.length) = true := by first | simpa using c3 | (simp at c3 ⊢; omega)
  clear c3
  have H' := Aside0.mk H
  clear H
  go_enter Tryz.func18, Tryz.ntmps18
  go_wp2
  repeat (go_quiet (fail); try go_wp2)
  go_loopg [13] k (fun kq v13 w' => ∃ (x13_1 : Int), v13 = .int .i64 x13_1 ∧ Aside0 (laws_vTexts.l0 kq l0 l1 (l0.length : Int) x13_1 = some r) ∧ Aside0 (kq ≤ k) ∧ Drawn0 w w')
  case atStart => exact ⟨(0), (rs), H', ⟨Nat.le_refl _⟩, by repeat (first | exact Drawn0.refl _ | apply Drawn0.step)⟩
  case round =>
   clear H'
   try clear c1
   try clear p2
   try clear c3
   try clear c3b0
   try clear c3b1
   try clear c3b2
   obtain ⟨x13_1, rfl, HA, HK1, ⟨m1, rfl⟩⟩ := hrel
   cases gk with
   | zero => exact absurd HA.out (by simp [laws_vTexts.l0])
   | succ k1 =>
    have H := HA.out
    clear HA
    simp only [laws_vTexts.l0] at H
    by_cases c4 : x13_1 < (l0.length : Int)
    ·rw [if_pos c4] at H
     have c4b0 := decide_eq_true c4
     clear c4
     obtain ⟨c5, H⟩ := oi H
     have c5b0 := decide_eq_true c5
     clear c5
     obtain ⟨c6, H⟩ := oi H
     have c6b0 := decide_eq_true c6
     clear c6
     obtain ⟨c7, H⟩ := oi H
     have c7b0 := decide_eq_true c7
     clear c7
     by_cases c8 : (rdOf ByteArray.empty l0 x13_1).toList = (rdOf ByteArray.empty l1 x13_1).toList
     ·rw [if_pos c8] at H
      have c8b0 : ((rdOf ByteArray.empty l0 x13_1).toList == (rdOf ByteArray.empty l1 x13_1).toList) = true := beq_iff_eq.mpr c8
      have c8b1 : ((rdOf ByteArray.empty l0 x13_1).toList != (rdOf ByteArray.empty l1 x13_1).toList) = false := bne_eq_false_iff_eq.mpr c8
      clear c8
      have H' := Aside0.mk H
      clear H
      have p318 : 0 ≤ (x13_1 : Int) := of_decide_eq_true asm
      have q318 : x13_1 < (l0.length : Int) := of_decide_eq_true asm
      obtain ⟨ad318, e318, hx318_0⟩ := Kd.at_string HR0.out x13_1 p318 q318
      cases e318
      replace p318 := eq_true p318
      replace q318 := eq_true q318
      have p319 : 0 ≤ (x13_1 : Int) := of_decide_eq_true asm
      have q319 : x13_1 < (l1.length : Int) := of_decide_eq_true asm
      obtain ⟨ad319, e319, hx319_0⟩ := Kd.at_string HR1.out x13_1 p319 q319
      cases e319
      replace p319 := eq_true p319
      replace q319 := eq_true q319
      go_wp2
      repeat (go_quiet (fail); try go_wp2)
      go_roundg k1
      case measure => have := HK1.out; omega
      case rel => exact ⟨(wrap64 (x13_1 + 1)), (rs), H', ⟨by have := HK1.out; omega⟩, by repeat (first | exact Drawn0.refl _ | apply Drawn0.step)⟩
     rw [if_neg c8] at H
     have c8b0 : ((rdOf ByteArray.empty l0 x13_1).toList == (rdOf ByteArray.empty l1 x13_1).toList) = false := beq_eq_false_iff_ne.mpr c8
     have c8b1 : ((rdOf ByteArray.empty l0 x13_1).toList != (rdOf ByteArray.empty l1 x13_1).toList) = true := bne_iff_ne.mpr c8
     obtain rfl := Option.some.inj H
     have p318 : 0 ≤ (x13_1 : Int) := of_decide_eq_true asm
     have q318 : x13_1 < (l0.length : Int) := of_decide_eq_true asm
     obtain ⟨ad318, e318, hx318_0⟩ := Kd.at_string HR0.out x13_1 p318 q318
     cases e318
     replace p318 := eq_true p318
     replace q318 := eq_true q318
     have p319 : 0 ≤ (x13_1 : Int) := of_decide_eq_true asm
     have q319 : x13_1 < (l1.length : Int) := of_decide_eq_true asm
     obtain ⟨ad319, e319, hx319_0⟩ := Kd.at_string HR1.out x13_1 p319 q319
     cases e319
     replace p319 := eq_true p319
     replace q319 := eq_true q319
     go_wp2
     repeat (go_quiet (fail); try go_wp2)
     go_ret
     exact ⟨rs, by repeat (first | exact Drawn0.refl _ | apply Drawn0.step)⟩
    rw [if_neg c4] at H
    have c4b0 := decide_eq_false c4
    clear c4
    obtain rfl := Option.some.inj H
    go_wp2
    repeat (go_quiet (fail); try go_wp2)
    go_ret
    exact ⟨rs, by repeat (first | exact Drawn0.refl _ | apply Drawn0.step)⟩
 rw [if_neg c3] at H
 have c3b0 : ((l0.length : Int) == (l1.length : Int)) = false := beq_eq_false_iff_ne.mpr c3
 have c3b1 : ((l0.length : Int) != (l1.length : Int)) = true := bne_iff_ne.mpr c3
 have c3b2 : (l0.length == l1.length) = false := by first | simpa using c3 | (simp at c3 ⊢; omega)
 obtain rfl := Option.some.inj H
 go_enter Tryz.func18, Tryz.ntmps18
 go_wp2
 repeat (go_quiet (fail); try go_wp2)
 go_ret
 exact ⟨rs, by repeat (first | exact Drawn0.refl _ | apply Drawn0.step)⟩

end Go.Proofs.YtonhhfhlhlifcaaGreatDoor.PFnRowsHiddenOfAll
