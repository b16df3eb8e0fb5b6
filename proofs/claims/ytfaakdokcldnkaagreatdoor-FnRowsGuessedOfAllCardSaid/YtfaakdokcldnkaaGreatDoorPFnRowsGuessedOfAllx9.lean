-- Laid by xprint, a program of this session that runs over the kit's print.
import Derived.Test.YtfaakdokcldnkaaGreatDoorPFnRowsGuessedOfAllx8
namespace Go.Proofs.YtfaakdokcldnkaaGreatDoor.PFnRowsGuessedOfAll
open Go.RowKit Go.Proofs.YtfaakdokcldnkaaGreatDoorW.PrintWords Go.Proofs.YtfaakdokcldnkaaGreatDoorW.PrintLast Go.Proofs.YtfaakdokcldnkaaGreatDoorW.PrintMore Go.Proofs.YtfaakdokcldnkaaGreatDoor.Sq
attribute [local go_sem] max2_int min2_int max_two min_two max_three min_three max_four min_four   -- for this text's walks alone
set_option linter.unusedVariables false
set_option linter.unusedSimpArgs false

/-! ### impl_NeedlessClues: function 14 -/
def impl_NeedlessClues.l0 : Nat → List ByteArray → List Int → Int → Int → Int → List (S42) → Option (List Int × Bool)
  | 0, _, _, _, _, _, _ => none
  | k + 1, x4, x6, x18, x19, x256000, x256001 => if x19 < x18 then ((impl_without.f x256001 x19).bind fun t263 => ((impl_solutions.f k x256000 t263).bind fun t266 => (if (t266.length : Int) = (x4.length : Int) then (if x6.length < 17592186044416 then (impl_NeedlessClues.l0 k x4 (x6 ++ [x19]) x18 (wrap64 (x19 + 1)) x256000 x256001) else (none)) else (impl_NeedlessClues.l0 k x4 x6 x18 (wrap64 (x19 + 1)) x256000 x256001)))) else (some (x6, true))
def impl_NeedlessClues.f (k : Nat) (a0_0 : Int) (l0_1 : List (S42)) : Option (List Int × Bool) := (impl_Solutions.f k a0_0 l0_1).bind fun bt256 => (if bt256.2 = true then (impl_NeedlessClues.l0 k bt256.1 (([] : List Int)) (l0_1.length : Int) 0 a0_0 l0_1) else (some (([] : List Int), false)))
theorem impl_NeedlessClues.mono_l : ∀ k, (∀ y0 y1 y2 y3 y4 y5, LeO (impl_NeedlessClues.l0 k y0 y1 y2 y3 y4 y5) (impl_NeedlessClues.l0 (k + 1) y0 y1 y2 y3 y4 y5))
  | 0 => fun _ _ _ _ _ _ r h => by simp [impl_NeedlessClues.l0] at h
  | k + 1 => by
    have ih0 := impl_NeedlessClues.mono_l k
    · intro y0 y1 y2 y3 y4 y5
      unfold impl_NeedlessClues.l0
      repeat' first
      | (with_reducible exact ih0 _ _ _ _ _ _)
      | (with_reducible exact impl_Solutions.mono _ _ _)
      | (with_reducible exact impl_solutions.mono _ _ _)
      | (with_reducible exact LeO.refl _)
      | (with_reducible exact LeO.none _)
      | (with_reducible refine LeO.ite ?_ ?_)
      | (with_reducible refine LeO.bind ?_ (fun _ => ?_))
      | exact ih0 _ _ _ _ _ _
      | exact impl_Solutions.mono _ _ _
      | exact impl_solutions.mono _ _ _
      | exact LeO.none _
      | refine LeO.ite ?_ ?_
      | refine LeO.bind ?_ (fun _ => ?_)
theorem impl_NeedlessClues.mono : ∀ a0 a1 k, LeO (impl_NeedlessClues.f k a0 a1) (impl_NeedlessClues.f (k + 1) a0 a1) := by
  intro a0 a1 k
  have ih0 := impl_NeedlessClues.mono_l k
  unfold impl_NeedlessClues.f
  repeat' first
      | (with_reducible exact ih0 _ _ _ _ _ _)
      | (with_reducible exact impl_Solutions.mono _ _ _)
      | (with_reducible exact impl_solutions.mono _ _ _)
      | (with_reducible exact LeO.refl _)
      | (with_reducible exact LeO.none _)
      | (with_reducible refine LeO.ite ?_ ?_)
      | (with_reducible refine LeO.bind ?_ (fun _ => ?_))
      | exact ih0 _ _ _ _ _ _
      | exact impl_Solutions.mono _ _ _
      | exact impl_solutions.mono _ _ _
      | exact LeO.none _
      | refine LeO.ite ?_ ?_
      | refine LeO.bind ?_ (fun _ => ?_)
def impl_NeedlessClues.T8 : Bool × List (List Nat × List Nat) := (true, [([], []), ([0], [0]), ([], []), ([2], [2]), ([], []), ([3, 4], [3, 4]), ([1, 5, 5], [1, 5]), ([6], [6]), ([], []), ([8], [8]), ([7, 9], [7, 9])])
def impl_NeedlessClues.B8 : List Nat := [0, 1, 0, 4, 0, 28, 63, 127, 0, 256, 1023]
theorem impl_NeedlessClues.tab8 : rtab .any (opsOf Tryz.f14 8) = impl_NeedlessClues.T8 := by kernel_rfl
theorem impl_NeedlessClues.bits8 : waitsOk impl_NeedlessClues.T8.2 impl_NeedlessClues.B8 = true := by kernel_rfl
set_option maxHeartbeats 8000000 in
set_option maxRecDepth 100000 in
theorem impl_NeedlessClues.calls (k : Nat) (a0_0 : Int) (A0_1 : Option Addr) (c0_1 : Nat) (l0_1 : List (S42)) (r1 : List Int) (r2 : Bool) (w : World) (hm : Dr.Tab w) (hr0_1 : Kd.C k42 w A0_1 l0_1.length l0_1) (hc0_1 : l0_1.length ≤ c0_1) (h : impl_NeedlessClues.f k a0_0 l0_1 = some (r1, r2)) :
  Calls Tryz.prog 14 #[.agg #[.int .i64 a0_0, .slice A0_1 l0_1.length c0_1]] w fun e w' => ∃ v0_ : Value, e = .returned (.tuple #[v0_, .bool r2]) ∧ Kd.R (Kd.int .i64) 3 w' w.heap.size (fun _ => True) v0_ r1 ∧ Below w.heap.size w w' := by
 have hu24 := Tryz.underlying24
 have HR0_1 := Aside0.mk hr0_1
 have HC0_1 := Aside0.mk hc0_1
 clear hr0_1 hc0_1
 have HB := Aside0.mk (Below.refl w.heap.size w)
 have HMM := Aside0.mk hm
 clear hm
 unfold impl_NeedlessClues.f at h
 have H := h
 clear h
 obtain ⟨⟨t256, t259⟩, A2, H⟩ := ob H
 (try dsimp only at H)
 go_enter Tryz.func14, Tryz.ntmps14
 go_wp2_with (((with_reducible refine gd 1 ?_); refine bx 1 24 #[.int .i64 a0_0, .slice A0_1 l0_1.length c0_1] ?_; intro gb255 hg w4 hbox hb; have BK255 := hbox; have GW255 := gs hg; have GE255 := gs hg; replace HB := bs hb; clear hb hbox hg; obtain ⟨hcz5_0, hcz5_1, hfz5_0, hfz5_1⟩ := z2 BK255; refine halt ?_))
 by_cases c3 : t259 = true
 ·subst c3
  rw [if_pos rfl] at H
  obtain ⟨y260, hy260⟩ : ∃ y_ : List Int, y_ = (([] : List Int)) := ⟨_, rfl⟩
  replace H : (impl_NeedlessClues.l0 k t256 y260 (l0_1.length : Int) 0 a0_0 l0_1) = some (r1, r2) := by first | (rw [hy260]; with_reducible exact H) | (have H2_ := (Option.bind_some _ _).symm.trans H; rw [hy260]; with_reducible exact H2_) | (have H2_ := (Option.bind_some _ _).symm.trans H; with_reducible exact H2_) | with_reducible exact H | (rw [hy260]; exact H) | exact H
  have Ny260 := Aside0.mk hy260
  clear hy260
  have H' := Aside0.mk H
  clear H
  refine Aside0.mk ?_
  try go_wp2_with (first | ((with_reducible refine gc 4 ?_); refine gl (some 10) Tryz.func4 #[.agg #[.int .i64 a0_0, .slice A0_1 l0_1.length c0_1]] ?_; (with_reducible refine (impl_Solutions.calls k a0_0 _ _ l0_1 t256 true _ ?_ ?_ ?_ A2.out).mono ?_); exact Dr.mm HMM; exact cb HR0_1; exact HC0_1.out; rintro e w6 ⟨v257, rfl, ho0, hb⟩; refine ⟨_, rfl, ?_⟩; have HO258 := Aside0.mk (Kd.R_lower ho0 (below_size bw)); replace BK255 := nk BK255 hb; replace HB := bs hb; (try clear hb); (try clear ho0)) | ((with_reducible refine gd 15 ?_); refine Kd.R_lit (Kd.int .i64) _ 3 ?hg (N := 15) ?hd (xs := ([] : List Int)) (inner := []) (ok := fun _ => True) (okp := fun _ => True) ?hr ?hp (fun _ hk => hk) trivial (Below.refl _ _) (Nat.le_refl _) (by simp) ?_; (case hd => rfl); (case hg => rfl); (case hr => first | (go_simp; done) | (go_simp; rfl)); (case hp => exact (Reps.none _ _)); intro v261 w7 ho8 hb hg_ hnew_; clear hg_ hnew_; (first | rw [← Ny260.out] at ho8 | (simp only [Int.reduceToNat] at ho8; rw [← Ny260.out] at ho8)); replace HO258 := rl HO258 hb; have HO262 := Aside0.mk (Kd.R_lower ho8 (below_size bw)); replace BK255 := nk BK255 hb; replace HB := bs hb; clear hb ho8; obtain ⟨hcz9_0, hcz9_1, hfz9_0, hfz9_1⟩ := z2 BK255))
  go_loopg [6, 19] k (fun kq v6 v19 w' => ∃ (x6_1 : List Int) (x19_1 : Int), v19 = .int .i64 x19_1 ∧ Aside0 (impl_NeedlessClues.l0 kq t256 x6_1 (l0_1.length : Int) x19_1 a0_0 l0_1 = some (r1, r2)) ∧ Aside0 (kq ≤ k) ∧ Aside0 (Kd.R Kd.string 9 w' w.heap.size (fun _ => True) v257 t256) ∧ Aside0 (Kd.R (Kd.int .i64) 3 w' w.heap.size (fun _ => True) v6 x6_1) ∧ Aside0 (w'.heap[gb255]? = some (.cells #[.int .i64 a0_0, (.slice A0_1 l0_1.length c0_1)] 24 (0, 0))) ∧ Aside0 (Below w.heap.size w w'))
  case atStart => exact ⟨(y260), (0), (rs), H', ⟨Nat.le_refl _⟩, ⟨pr HO258⟩, ⟨pr HO262⟩, ⟨pk BK255⟩, ⟨bw⟩⟩
  case round =>
   clear H'
   try clear c1
   try clear p2
   try clear c3
   try clear c4
   try clear hcz5_0
   try clear hcz5_1
   try clear hcz9_0
   try clear hcz9_1
   try clear hfz5_0
   try clear hfz5_1
   try clear hfz9_0
   try clear hfz9_1
   obtain ⟨x6_1, x19_1, rfl, HA, HK1, HO_4, HO_6, BK255, HB⟩ := hrel
   cases gk with
   | zero => exact absurd HA.out (by simp [impl_NeedlessClues.l0])
   | succ k1 =>
    have H := HA.out
    clear HA
    simp only [impl_NeedlessClues.l0] at H
    by_cases c10 : x19_1 < (l0_1.length : Int)
    ·rw [if_pos c10] at H
     have c10b0 := decide_eq_true c10
     clear c10
     obtain ⟨t263, A11, H⟩ := ob H
     (try dsimp only at H)
     obtain ⟨t266, A12, H⟩ := ob H
     (try dsimp only at H)
     by_cases c13 : (t266.length : Int) = (t256.length : Int)
     ·rw [if_pos c13] at H
      have c13b0 : ((t266.length : Int) == (t256.length : Int)) = true := beq_iff_eq.mpr c13
      have c13b1 : ((t266.length : Int) != (t256.length : Int)) = false := bne_eq_false_iff_eq.mpr c13
      have c13b2 : (t266.length == t256.length) = true := by first | simpa using c13 | (simp at c13 ⊢; omega)
      clear c13
      obtain ⟨c14, H⟩ := oi H
      have LMc14 := Aside0.mk c14
      clear c14
      obtain ⟨y269, hy269⟩ : ∃ y_ : List Int, y_ = (x6_1 ++ [x19_1]) := ⟨_, rfl⟩
      replace H : (impl_NeedlessClues.l0 k1 t256 y269 (l0_1.length : Int) (wrap64 (x19_1 + 1)) a0_0 l0_1) = some (r1, r2) := by first | (rw [hy269]; with_reducible exact H) | (have H2_ := (Option.bind_some _ _).symm.trans H; rw [hy269]; with_reducible exact H2_) | (have H2_ := (Option.bind_some _ _).symm.trans H; with_reducible exact H2_) | with_reducible exact H | (rw [hy269]; exact H) | exact H
      have Ny269 := Aside0.mk hy269
      clear hy269
      have H' := Aside0.mk H
      clear H
      try go_wp2
      replace HO_4 := Aside0.mk (Kd.R_drew HO_4.out)
      replace HO_6 := Aside0.mk (Kd.R_drew HO_6.out)
      replace BK255 := Aside0.mk (blk_drew BK255.out)
      replace HB := Aside0.mk (below_drew1 HB.out)
      obtain ⟨Ao16, co16, eo16⟩ := Kd.R_slice HO_4.out
      (first | subst eo16 | (injection eo16 with f1_ f2_ f3_; have f4_ := f1_.symm; have f5_ := f3_.symm; clear f1_ f2_ f3_; subst f4_; subst f5_))
      refine start_ (n := 11) (S := fun w' => w'.cell? ⟨gb255, 0, none⟩ = some (.int .i64 a0_0) ∧ w'.cell? ⟨gb255, 1, none⟩ = some (.slice A0_1 l0_1.length c0_1)) (ds := []) (tb 11 0) (by kernel_rfl) rfl rfl ⟨ec BK255, ec BK255⟩ (fun hHeld => ?_); refine with_tabW impl_NeedlessClues.tab8 impl_NeedlessClues.bits8 (fun HT_ HW_ => ?_)
      generalize wr.drew = w15 at HO_4 HO_6 BK255 HB hHeld ⊢
      refine pu 0 (some 22) (tb 11 1) ?_
      refine pu 2 (some 24) (tb 11 5) ?_
      refine pu 4 (some 26) (tb 11 21) ?_
      refine pu 8 (some 30) (tb 11 277) ?_
      refine pu 9 (some 31) (tb 11 789) ?_
      refine tk 1 (some 23) (tb 11 791) hHeld ?_
      refine tk 3 (some 25) (tb 11 799) hHeld ?_
      refine one_ (i := 5) (N := some 27) (tb 11 831) rfl rfl (one_of HT_.out (by kernel_rfl)) (by decide) (fun K hK => ?_)
      refine go1 Tryz.func38 #[.slice A0_1 l0_1.length c0_1, .int .i64 x19_1] ?_
      with_reducible refine (impl_without.calls _ _ l0_1 x19_1 t263 _ ?side1 ?side2 A11.out).mono ?_
      (case side1 => exact cb HR0_1)
      (case side2 => exact HC0_1.out)
      rintro e w17 ⟨v264, rfl, ho0, hb⟩
      refine ⟨_, rfl, ?_⟩
      replace HO_4 := rl HO_4 hb
      replace HO_6 := rl HO_6 hb
      have HO265 := Aside0.mk (Kd.R_lower ho0 (below_size bw))
      replace BK255 := nk BK255 hb
      replace HB := bs hb
      (try clear hb)
      (try clear ho0)
      obtain ⟨Ao18, co18, eo18⟩ := Kd.R_slice HO265.out
      (first | subst eo18 | (injection eo18 with f1_ f2_ f3_; have f4_ := f1_.symm; have f5_ := f3_.symm; clear f1_ f2_ f3_; subst f4_; subst f5_))
      refine hK.out _ _ ⟨ec BK255, ec BK255⟩ (fun hHeld => ?_)
      clear hK K
      refine nm (some 27) ?_
      refine one_ (i := 6) (N := some 28) (tb 11 895) rfl rfl (one_of HT_.out (by kernel_rfl)) (by decide) (fun K hK => ?_)
      refine go1 Tryz.func34 #[.int .i64 a0_0, .slice Ao18 t263.length co18] ?_
      with_reducible refine (impl_solutions.calls k1 a0_0 _ _ t263 t266 _ ?side1 ?side2 ?side3 A12.out).mono ?_
      (case side1 => exact Dr.mm HMM)
      (case side2 => exact rr HO265)
      (case side3 => exact rn HO265)
      rintro e w19 ⟨v267, rfl, ho0, hb⟩
      refine ⟨_, rfl, ?_⟩
      replace HO_6 := rl HO_6 hb
      replace HO265 := rl HO265 hb
      have HO268 := Aside0.mk (Kd.R_lower (Kd.R_new' ho0 (Kd.R_lt (pr HO_4))) (below_size bw))
      replace HO_4 := re HO_4 ho0 hb
      replace BK255 := nk BK255 hb
      replace HB := bs hb
      (try clear hb)
      (try clear ho0)
      obtain ⟨Ao20, co20, eo20⟩ := Kd.R_slice HO268.out
      (first | subst eo20 | (injection eo20 with f1_ f2_ f3_; have f4_ := f1_.symm; have f5_ := f3_.symm; clear f1_ f2_ f3_; subst f4_; subst f5_))
      refine hK.out _ _ ⟨ec BK255, ec BK255⟩ (fun hHeld => ?_)
      clear hK K
      refine nm (some 28) ?_
      refine pu 7 (some 29) (tb 11 1023) ?_
      refine pu 10 (some 32) (tb 11 2047) ?_
      refine done_ (done_of HT_.out (by kernel_rfl)) ?_
      try go_wp2_with (first | ((with_reducible refine gate_builtin (b := .append) (xs := #[.tmp 33, .tmp 35]) rfl ?_); at_builtin; refine Kd.R_append (Kd.int .i64) (w0 := w) w.heap.size rfl (.tmp 33) (.tmp 35) 34 3 (.int .i64 0) 8 rfl Tryz.underlying34 info3 rfl (by decide) (by omega) u6 x6_1 x19_1 [.int .i64 x19_1] (fun _ => True) (fun _ => False) rfl rfl ?aP (fun _ hk => hk.elim) ?aF ?aO ?aB ?aS ?aL ?_; (case aP => exact rfl); (case aB => exact bw); (case aF => exact (fun _ _ => trivial)); (case aO => exact (pr HO_6)); (case aS => exact (below_size bw)); (case aL => have := LMc14.out; omega); intro v270 w21 ho hb hg hat; rw [← Ny269.out] at ho; have n0_ := Aside0.mk (Kd.R_over' (pr HO_4) (Kd.R_typed (pr HO_6)) (by decide) hg); have n1_ := Aside0.mk (blk_grown (pk BK255) hg (Kd.R_ne HO_6.out BK255.out (by decide))); have n2_ := Aside0.mk (Kd.R_over' (pr HO265) (Kd.R_typed (pr HO_6)) (by decide) hg); have n3_ := Aside0.mk (Kd.R_over' (pr HO268) (Kd.R_typed (pr HO_6)) (by decide) hg); have n4_ := Aside0.mk (hb); have n5_ := Aside0.mk (ho); clear HO_4; clear BK255; clear HO265; clear HO268; clear HB; clear HO_6; have HO_4 := n0_; have BK255 := n1_; have HO265 := n2_; have HO268 := n3_; have HB := n4_; have HO271 := n5_; clear n0_ n1_ n2_ n3_ n4_ n5_; clear ho hb hg hat))
      go_roundg k1
      case measure => have := HK1.out; omega
      case rel => exact ⟨(y269), (wrap64 (x19_1 + 1)), (rs), H', ⟨by have := HK1.out; omega⟩, ⟨by (with_reducible repeat (first | apply Kd.R_alloc | apply Kd.R_drewN | apply Kd.R_drew)); exact Kd.R_mono HO_4.out (fun _ hk => trivial)⟩, ⟨pr HO271⟩, ⟨pk BK255⟩, ⟨bw⟩⟩
     rw [if_neg c13] at H
     have c13b0 : ((t266.length : Int) == (t256.length : Int)) = false := beq_eq_false_iff_ne.mpr c13
     have c13b1 : ((t266.length : Int) != (t256.length : Int)) = true := bne_iff_ne.mpr c13
     have c13b2 : (t266.length == t256.length) = false := by first | simpa using c13 | (simp at c13 ⊢; omega)
     have H' := Aside0.mk H
     clear H
     try go_wp2
     replace HO_4 := Aside0.mk (Kd.R_drew HO_4.out)
     replace HO_6 := Aside0.mk (Kd.R_drew HO_6.out)
     replace BK255 := Aside0.mk (blk_drew BK255.out)
     replace HB := Aside0.mk (below_drew1 HB.out)
     obtain ⟨Ao23, co23, eo23⟩ := Kd.R_slice HO_4.out
     (first | subst eo23 | (injection eo23 with f1_ f2_ f3_; have f4_ := f1_.symm; have f5_ := f3_.symm; clear f1_ f2_ f3_; subst f4_; subst f5_))
     refine start_ (n := 11) (S := fun w' => w'.cell? ⟨gb255, 0, none⟩ = some (.int .i64 a0_0) ∧ w'.cell? ⟨gb255, 1, none⟩ = some (.slice A0_1 l0_1.length c0_1)) (ds := []) (tb 11 0) (by kernel_rfl) rfl rfl ⟨ec BK255, ec BK255⟩ (fun hHeld => ?_); refine with_tabW impl_NeedlessClues.tab8 impl_NeedlessClues.bits8 (fun HT_ HW_ => ?_)
     generalize wr.drew = w22 at HO_4 HO_6 BK255 HB hHeld ⊢
     refine pu 0 (some 22) (tb 11 1) ?_
     refine pu 2 (some 24) (tb 11 5) ?_
     refine pu 4 (some 26) (tb 11 21) ?_
     refine pu 8 (some 30) (tb 11 277) ?_
     refine pu 9 (some 31) (tb 11 789) ?_
     refine tk 1 (some 23) (tb 11 791) hHeld ?_
     refine tk 3 (some 25) (tb 11 799) hHeld ?_
     refine one_ (i := 5) (N := some 27) (tb 11 831) rfl rfl (one_of HT_.out (by kernel_rfl)) (by decide) (fun K hK => ?_)
     refine go1 Tryz.func38 #[.slice A0_1 l0_1.length c0_1, .int .i64 x19_1] ?_
     with_reducible refine (impl_without.calls _ _ l0_1 x19_1 t263 _ ?side1 ?side2 A11.out).mono ?_
     (case side1 => exact cb HR0_1)
     (case side2 => exact HC0_1.out)
     rintro e w24 ⟨v264, rfl, ho0, hb⟩
     refine ⟨_, rfl, ?_⟩
     replace HO_4 := rl HO_4 hb
     replace HO_6 := rl HO_6 hb
     have HO265 := Aside0.mk (Kd.R_lower ho0 (below_size bw))
     replace BK255 := nk BK255 hb
     replace HB := bs hb
     (try clear hb)
     (try clear ho0)
     obtain ⟨Ao25, co25, eo25⟩ := Kd.R_slice HO265.out
     (first | subst eo25 | (injection eo25 with f1_ f2_ f3_; have f4_ := f1_.symm; have f5_ := f3_.symm; clear f1_ f2_ f3_; subst f4_; subst f5_))
     refine hK.out _ _ ⟨ec BK255, ec BK255⟩ (fun hHeld => ?_)
     clear hK K
     refine nm (some 27) ?_
     refine one_ (i := 6) (N := some 28) (tb 11 895) rfl rfl (one_of HT_.out (by kernel_rfl)) (by decide) (fun K hK => ?_)
     refine go1 Tryz.func34 #[.int .i64 a0_0, .slice Ao25 t263.length co25] ?_
     with_reducible refine (impl_solutions.calls k1 a0_0 _ _ t263 t266 _ ?side1 ?side2 ?side3 A12.out).mono ?_
     (case side1 => exact Dr.mm HMM)
     (case side2 => exact rr HO265)
     (case side3 => exact rn HO265)
     rintro e w26 ⟨v267, rfl, ho0, hb⟩
     refine ⟨_, rfl, ?_⟩
     replace HO_6 := rl HO_6 hb
     replace HO265 := rl HO265 hb
     have HO268 := Aside0.mk (Kd.R_lower (Kd.R_new' ho0 (Kd.R_lt (pr HO_4))) (below_size bw))
     replace HO_4 := re HO_4 ho0 hb
     replace BK255 := nk BK255 hb
     replace HB := bs hb
     (try clear hb)
     (try clear ho0)
     obtain ⟨Ao27, co27, eo27⟩ := Kd.R_slice HO268.out
     (first | subst eo27 | (injection eo27 with f1_ f2_ f3_; have f4_ := f1_.symm; have f5_ := f3_.symm; clear f1_ f2_ f3_; subst f4_; subst f5_))
     refine hK.out _ _ ⟨ec BK255, ec BK255⟩ (fun hHeld => ?_)
     clear hK K
     refine nm (some 28) ?_
     refine pu 7 (some 29) (tb 11 1023) ?_
     refine pu 10 (some 32) (tb 11 2047) ?_
     refine done_ (done_of HT_.out (by kernel_rfl)) ?_
     try go_wp2
     go_roundg k1
     case measure => have := HK1.out; omega
     case rel => exact ⟨(x6_1), (wrap64 (x19_1 + 1)), (rs), H', ⟨by have := HK1.out; omega⟩, ⟨by (with_reducible repeat (first | apply Kd.R_alloc | apply Kd.R_drewN | apply Kd.R_drew)); exact Kd.R_mono HO_4.out (fun _ hk => trivial)⟩, ⟨pr HO_6⟩, ⟨pk BK255⟩, ⟨bw⟩⟩
    rw [if_neg c10] at H
    have c10b0 := decide_eq_false c10
    clear c10
    simp only [Option.some.injEq, Prod.mk.injEq] at H
    obtain ⟨rfl, rfl⟩ := H
    go_wp2
    go_ret2
    exact ⟨_, rs, pr HO_6, bw⟩
 replace c3 := Bool.eq_false_iff.mpr c3
 subst c3
 rw [if_neg (show ¬ (false = true) by decide)] at H
 simp only [Option.some.injEq, Prod.mk.injEq] at H
 obtain ⟨rfl, rfl⟩ := H
 refine Aside0.mk ?_
 try go_wp2_with (((with_reducible refine gc 4 ?_); refine gl (some 10) Tryz.func4 #[.agg #[.int .i64 a0_0, .slice A0_1 l0_1.length c0_1]] ?_; (with_reducible refine (impl_Solutions.calls k a0_0 _ _ l0_1 t256 false _ ?_ ?_ ?_ A2.out).mono ?_); exact Dr.mm HMM; exact cb HR0_1; exact HC0_1.out; rintro e w30 ⟨v257, rfl, ho0, hb⟩; refine ⟨_, rfl, ?_⟩; have HO258 := Aside0.mk (Kd.R_lower ho0 (below_size bw)); replace HB := bs hb; (try clear hb); (try clear ho0)))
 go_ret2
 exact ⟨_, rs, by first | exact Kd.R_nil _ _ _ _ _ | exact Kd.N_nil _ _ _ _ _ | exact Kd.V_nil _ _ _ _ _ | exact Kd.Q_nil _ _ _ _ _ | exact Kd.S_nil _ _ _ _ _, bw⟩

/-! ### spec_pzWithout: function 39 -/
def spec_pzWithout.f (l0 : List (S42)) (a1 : Int) : Option ((List (S42))) := (some (([] : List (S42)) : List (S42))).bind fun y272 => (if 0 ≤ a1 then (if a1 ≤ (l0.length : Int) then ((some (l0.take (a1 : Int).toNat : List (S42))).bind fun y275 => (if y272.length + y275.length < 4398046511104 then ((some (y272 ++ y275 : List (S42))).bind fun y279 => (if 0 ≤ (wrap64 (a1 + 1)) then (if (wrap64 (a1 + 1)) ≤ (l0.length : Int) then ((some (l0.drop ((wrap64 (a1 + 1)) : Int).toNat : List (S42))).bind fun y282 => (if y279.length + y282.length < 4398046511104 then (some (y279 ++ y282)) else (none))) else (none)) else (none))) else (none))) else (none)) else (none))
def spec_pzWithout.T1 : Bool × List (List Nat × List Nat) := (true, [([], []), ([], []), ([], []), ([1, 2], [1, 2]), ([0, 3], [0, 3]), ([], []), ([], []), ([6], [6]), ([5, 7], [5, 7]), ([4, 8, 4], [4, 8]), ([9, 9, 0, 1, 2, 3, 4, 5, 6, 7, 8, 9], [9])])
def spec_pzWithout.B1 : List Nat := [0, 0, 0, 6, 15, 0, 0, 64, 224, 511, 1023]
theorem spec_pzWithout.tab1 : rtab .any (opsOf Tryz.f39 1) = spec_pzWithout.T1 := by kernel_rfl
theorem spec_pzWithout.bits1 : waitsOk spec_pzWithout.T1.2 spec_pzWithout.B1 = true := by kernel_rfl
set_option maxHeartbeats 8000000 in
set_option maxRecDepth 100000 in
theorem spec_pzWithout.calls (A0 : Option Addr) (c0 : Nat) (l0 : List (S42)) (a1 : Int) (r : List (S42)) (w : World) (hr0 : Kd.C k42 w A0 l0.length l0) (hc0 : l0.length ≤ c0) (h : spec_pzWithout.f l0 a1 = some r) :
  Calls Tryz.prog 39 #[.slice A0 l0.length c0, .int .i64 a1] w fun e w' => ∃ v0_ : Value, e = .returned (v0_) ∧ Kd.R k42 42 w' w.heap.size (fun _ => True) v0_ r ∧ Below w.heap.size w w' := by
 have HR0 := Aside0.mk hr0
 have HC0 := Aside0.mk hc0
 clear hr0 hc0
 have HB := Aside0.mk (Below.refl w.heap.size w)
 unfold spec_pzWithout.f at h
 have H := h
 clear h
 obtain ⟨y272, hy272⟩ : ∃ y_ : List (S42), y_ = (([] : List (S42))) := ⟨_, rfl⟩
 replace H : (if 0 ≤ a1 then (if a1 ≤ (l0.length : Int) then ((some (l0.take (a1 : Int).toNat : List (S42))).bind fun y275 => (if y272.length + y275.length < 4398046511104 then ((some (y272 ++ y275 : List (S42))).bind fun y279 => (if 0 ≤ (wrap64 (a1 + 1)) then (if (wrap64 (a1 + 1)) ≤ (l0.length : Int) then ((some (l0.drop ((wrap64 (a1 + 1)) : Int).toNat : List (S42))).bind fun y282 => (if y279.length + y282.length < 4398046511104 then (some (y279 ++ y282)) else (none))) else (none)) else (none))) else (none))) else (none)) else (none)) = some r := by first | (rw [hy272]; with_reducible exact H) | (have H2_ := (Option.bind_some _ _).symm.trans H; rw [hy272]; with_reducible exact H2_) | (have H2_ := (Option.bind_some _ _).symm.trans H; with_reducible exact H2_) | with_reducible exact H | (rw [hy272]; exact H) | exact H
 have Ny272 := Aside0.mk hy272
 clear hy272
 obtain ⟨c3, H⟩ := oi H
 have c3b0 := eq_true c3
 have c3b1 := decide_eq_true c3
 clear c3
 obtain ⟨c4, H⟩ := oi H
 have c4b0 := eq_true c4
 have c4b1 := decide_eq_true c4
 clear c4
 obtain ⟨y275, hy275⟩ : ∃ y_ : List (S42), y_ = (l0.take (a1 : Int).toNat) := ⟨_, rfl⟩
 replace H : (if y272.length + y275.length < 4398046511104 then ((some (y272 ++ y275 : List (S42))).bind fun y279 => (if 0 ≤ (wrap64 (a1 + 1)) then (if (wrap64 (a1 + 1)) ≤ (l0.length : Int) then ((some (l0.drop ((wrap64 (a1 + 1)) : Int).toNat : List (S42))).bind fun y282 => (if y279.length + y282.length < 4398046511104 then (some (y279 ++ y282)) else (none))) else (none)) else (none))) else (none)) = some r := by first | (rw [hy275]; with_reducible exact H) | (have H2_ := (Option.bind_some _ _).symm.trans H; rw [hy275]; with_reducible exact H2_) | (have H2_ := (Option.bind_some _ _).symm.trans H; with_reducible exact H2_) | with_reducible exact H | (rw [hy275]; exact H) | exact H
 have Ny275 := Aside0.mk hy275
 clear hy275
 obtain ⟨c5, H⟩ := oi H
 have LMc5 := Aside0.mk c5
 clear c5
 obtain ⟨y279, hy279⟩ : ∃ y_ : List (S42), y_ = (y272 ++ y275) := ⟨_, rfl⟩
 replace H : (if 0 ≤ (wrap64 (a1 + 1)) then (if (wrap64 (a1 + 1)) ≤ (l0.length : Int) then ((some (l0.drop ((wrap64 (a1 + 1)) : Int).toNat : List (S42))).bind fun y282 => (if y279.length + y282.length < 4398046511104 then (some (y279 ++ y282)) else (none))) else (none)) else (none)) = some r := by first | (rw [hy279]; with_reducible exact H) | (have H2_ := (Option.bind_some _ _).symm.trans H; rw [hy279]; with_reducible exact H2_) | (have H2_ := (Option.bind_some _ _).symm.trans H; with_reducible exact H2_) | with_reducible exact H | (rw [hy279]; exact H) | exact H
 have Ny279 := Aside0.mk hy279
 clear hy279
 obtain ⟨ji6, hji6⟩ : ∃ j_ : Int, (wrap64 (a1 + 1)) = j_ := ⟨_, rfl⟩
 replace H : (if 0 ≤ (ji6) then (if (ji6) ≤ (l0.length : Int) then ((some (l0.drop ((ji6) : Int).toNat : List (S42))).bind fun y282 => (if y279.length + y282.length < 4398046511104 then (some (y279 ++ y282)) else (none))) else (none)) else (none)) = some r := by first | (rw [hji6] at H; exact H) | (simp only [hji6] at H ⊢; exact H)
 have hji6w : (IntKind.i64.wrap (a1 + 1)) = ji6 := (i64_w _).trans hji6
 obtain ⟨c7, H⟩ := oi H
 have c7b0 := eq_true c7
 have c7b1 := decide_eq_true c7
 clear c7
 obtain ⟨c8, H⟩ := oi H
 have c8b0 := eq_true c8
 have c8b1 := decide_eq_true c8
 clear c8
 obtain ⟨y282, hy282⟩ : ∃ y_ : List (S42), y_ = (l0.drop ((ji6) : Int).toNat) := ⟨_, rfl⟩
 replace H : (if y279.length + y282.length < 4398046511104 then (some (y279 ++ y282)) else (none)) = some r := by first | (rw [hy282]; with_reducible exact H) | (have H2_ := (Option.bind_some _ _).symm.trans H; rw [hy282]; with_reducible exact H2_) | (have H2_ := (Option.bind_some _ _).symm.trans H; with_reducible exact H2_) | with_reducible exact H | (rw [hy282]; exact H) | exact H
 have Ny282 := Aside0.mk hy282
 clear hy282
 obtain ⟨c9, H⟩ := oi H
 have LMc9 := Aside0.mk c9
 clear c9
 obtain ⟨y286, hy286⟩ : ∃ y_ : List (S42), y_ = (y279 ++ y282) := ⟨_, rfl⟩
 replace H : (some y286) = some r := by first | (rw [hy286]; with_reducible exact H) | (have H2_ := (Option.bind_some _ _).symm.trans H; rw [hy286]; with_reducible exact H2_) | (have H2_ := (Option.bind_some _ _).symm.trans H; with_reducible exact H2_) | with_reducible exact H | (rw [hy286]; exact H) | exact H
 have Ny286 := Aside0.mk hy286
 clear hy286
 obtain rfl := Option.some.inj H
 go_enter Tryz.func39, Tryz.ntmps39
 try go_wp2
 replace HB := Aside0.mk (below_drew1 HB.out)
 have q11 : (a1 : Int) ≤ ((l0.length : Int) : Int) := of_decide_eq_true asm
 obtain ⟨i011, hi011, _, hsz11, _⟩ := info_parts info42
 have hroom11 : l0.length ≤ c0 := HC0.out
 have hC11 : Kd.C k42 _ A0 l0.length l0 := HR0.out
 have hcut11 := cut_to (P := Tryz.prog) 22 42 .i64 Tryz.underlying22 hi011 A0 l0.length c0 a1 (of_decide_eq_true asm) q11 hroom11
 have hr11 := Kd.C_take (m := (a1 : Int).toNat) hC11 (by omega)
 have hy11 : y275.length = (a1 : Int).toNat := (by rw [Ny275.out, List.length_take]; omega)
 rw [← Ny275.out] at hr11
 rw [← hy11] at hcut11
 have HR278 := Aside0.mk hr11
 have HC278 := Aside0.mk (show y275.length ≤ c0 from by omega)
 clear hr11 hC11 hroom11 hi011 hsz11
 have KY11 := Aside0.mk hy11
 clear hy11
 replace q11 := eq_true q11
 have q12 : ((ji6) : Int) ≤ ((l0.length : Int) : Int) := of_decide_eq_true asm
 obtain ⟨i012, hi012, _, hsz12, _⟩ := info_parts info42
 have hroom12 : l0.length ≤ c0 := HC0.out
 have hC12 : Kd.C k42 _ A0 l0.length l0 := HR0.out
 have q012 : (0 : Int) ≤ ((ji6) : Int) := of_decide_eq_true asm
 have hcut12 := cut_from (P := Tryz.prog) 22 42 .i64 Tryz.underlying22 hi012 4 hsz12 A0 l0.length c0 (ji6) q012 q12
 have hr12 := Kd.C_drop (m := ((ji6) : Int).toNat) (c := c0) hC12 (by omega) hroom12
 obtain ⟨A12, hA12⟩ : ∃ A1, A1 = (if c0 = ((ji6) : Int).toNat then A0 else (A0 : Option Addr).map (·.add (((ji6) : Int).toNat * 4))) := ⟨_, rfl⟩
 obtain ⟨c12, hc12⟩ : ∃ c1, c1 = c0 - ((ji6) : Int).toNat := ⟨_, rfl⟩
 have hy12 : y282.length = l0.length - ((ji6) : Int).toNat := (by rw [Ny282.out, List.length_drop] <;> omega)
 rw [show (l0).drop ((ji6) : Int).toNat = y282 from Ny282.out.symm] at hr12
 replace hr12 : Kd.C k42 _ A12 y282.length y282 := (by rw [hA12]; exact hr12)
 rw [← hy12, ← hA12, ← hc12] at hcut12
 have HR285 := Aside0.mk hr12
 have HC285 := Aside0.mk (show y282.length ≤ c12 from by rw [hy12, hc12]; exact Nat.sub_le_sub_right hroom12 _)
 clear hr12 hC12 hroom12 hi012 hsz12 hc12
 have KY12 := Aside0.mk hy12
 have KA12 := Aside0.mk hA12
 clear hy12 hA12
 replace q12 := eq_true q12
 refine start_ (n := 11) (S := fun w' => True) (ds := []) (tb 11 0) (by kernel_rfl) rfl rfl trivial (fun hHeld => ?_); refine with_tabW spec_pzWithout.tab1 spec_pzWithout.bits1 (fun HT_ HW_ => ?_)
 generalize w.drew = w10 at HB HR278 HR285 hHeld ⊢
 refine pu 1 (some 6) (tb 11 2) ?_
 refine pu 2 (some 7) (tb 11 6) ?_
 refine pu 3 (some 8) (tb 11 14) ?_
 refine pu 5 (some 10) (tb 11 46) ?_
 refine pu 6 (some 11) (tb 11 110) ?_
 refine pu 7 (some 12) (tb 11 238) ?_
 refine pu 8 (some 13) (tb 11 494) ?_
 refine one_ (i := 0) (N := some 5) (tb 11 495) rfl rfl (one_of HT_.out (by kernel_rfl)) (by decide) (fun K hK => ?_)
 refine Kd.R_lit_step k42 _ 42 ?hg (N := 5) ?hd (xs := ([] : List (S42))) (inner := []) (ok := fun _ => True) (okp := fun _ => True) ?hr ?hp (fun _ hk => hk) trivial (Below.refl _ _) (Nat.le_refl _) (by simp) ?_; (case hd => rfl); (case hg => rfl); (case hr => first | (go_simp; done) | (go_simp; rfl)); (case hp => exact (Reps.none _ _))
 intro v273 w13 ho14 hb hg_ hnew_
 clear hg_ hnew_
 (first | rw [← Ny272.out] at ho14 | (simp only [Int.reduceToNat] at ho14; rw [← Ny272.out] at ho14))
 have HO274 := Aside0.mk (Kd.R_lower ho14 (below_size bw))
 replace HB := bs hb
 clear hb ho14
 refine hK.out _ _ trivial (fun hHeld => ?_)
 clear hK K
 refine nm (some 5) ?_
 refine one_ (i := 4) (N := some 9) (tb 11 511) rfl rfl (one_of HT_.out (by kernel_rfl)) (by decide) (fun K hK => ?_)
 refine Kd.R_append_rows_step k42 (w0 := w) w.heap.size (by rfl) (.tmp 5) (.tmp 8) 22 42 (.agg #[(.int .i64 0), (.int .i64 0), (.int .i64 0), (.int .i64 0)]) 32 rfl Tryz.underlying22 info42 rfl (by decide) (by omega) v273 y272 y275 _ _ _ (fun _ => True) (fun _ => False) rfl rfl ?aO ?aR (fun _ _ h => h) (fun _ h => h.elim) ?aF ?aB ?aS ?aL ?_
 (case aR => exact cb HR278)
 (case aB => exact bw)
 (case aF => exact (fun _ _ => trivial))
 (case aO => exact (pr HO274))
 (case aS => exact (below_size bw))
 (case aL => have := LMc5.out; omega)
 intro v280 w15 ho hb hg hat
 rw [← Ny279.out] at ho
 have n0_ := Aside0.mk (hb)
 have n1_ := Aside0.mk (ho)
 clear HB
 clear HO274
 have HB := n0_
 have HO281 := n1_
 clear n0_ n1_
 clear ho hb hg hat
 refine hK.out _ _ trivial (fun hHeld => ?_)
 clear hK K
 refine nm (some 9) ?_
 refine one_ (i := 9) (N := some 14) (tb 11 1023) rfl rfl (one_of HT_.out (by kernel_rfl)) (by decide) (fun K hK => ?_)
 refine Kd.R_append_rows_step k42 (w0 := w) w.heap.size (by rfl) (.tmp 9) (.tmp 13) 22 42 (.agg #[(.int .i64 0), (.int .i64 0), (.int .i64 0), (.int .i64 0)]) 32 rfl Tryz.underlying22 info42 rfl (by decide) (by omega) v280 y279 y282 _ _ _ (fun _ => True) (fun _ => False) rfl rfl ?aO ?aR (fun _ _ h => h) (fun _ h => h.elim) ?aF ?aB ?aS ?aL ?_
 (case aR => exact cb HR285)
 (case aB => exact bw)
 (case aF => exact (fun _ _ => trivial))
 (case aO => exact (pr HO281))
 (case aS => exact (below_size bw))
 (case aL => have := LMc9.out; omega)
 intro v287 w16 ho hb hg hat
 rw [← Ny286.out] at ho
 have n0_ := Aside0.mk (hb)
 have n1_ := Aside0.mk (ho)
 clear HB
 clear HO281
 have HB := n0_
 have HO288 := n1_
 clear n0_ n1_
 clear ho hb hg hat
 refine hK.out _ _ trivial (fun hHeld => ?_)
 clear hK K
 refine nm (some 14) ?_
 refine pu 10 (some 4) (tb 11 2047) ?_
 refine done_ (done_of HT_.out (by kernel_rfl)) ?_
 try go_wp2
 go_ret
 exact ⟨_, by first | rfl | (simp [errW_none, errW_some] <;> rfl) | (simp only [← hji6]; first | rfl | (simp [errW_none, errW_some] <;> rfl)) | (simp [*, errW_none, errW_some] <;> rfl), pr HO288, bw⟩
end Go.Proofs.YtfaakdokcldnkaaGreatDoor.PFnRowsGuessedOfAll
