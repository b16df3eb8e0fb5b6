-- Laid by xprint, a program of this session that runs over the kit's print.
import Derived.Test.YtfaakdokcldnkaaGreatDoorPFnRowsGuessedOfAllx9
namespace Go.Proofs.YtfaakdokcldnkaaGreatDoor.PFnRowsGuessedOfAll
open Go.RowKit Go.Proofs.YtfaakdokcldnkaaGreatDoorW.PrintWords Go.Proofs.YtfaakdokcldnkaaGreatDoorW.PrintLast Go.Proofs.YtfaakdokcldnkaaGreatDoorW.PrintMore Go.Proofs.YtfaakdokcldnkaaGreatDoor.Sq
attribute [local go_sem] max2_int min2_int max_two min_two max_three min_three max_four min_four   -- for this text's walks alone
set_option linter.unusedVariables false
set_option linter.unusedSimpArgs false

/-! ### spec_NeedlessClues: function 15 -/
def spec_NeedlessClues.l0 : Nat → List Int → Int → Int → Int → Int → List (S42) → Option (List Int × Bool)
  | 0, _, _, _, _, _, _ => none
  | k + 1, x4, x5, x18, x19, x290000, x290001 => if x19 < x18 then ((spec_pzWithout.f x290001 x19).bind fun t294 => ((spec_pzAll.f k x290000 t294).bind fun t297 => (if (t297.length : Int) = x5 then (if x4.length < 17592186044416 then (spec_NeedlessClues.l0 k (x4 ++ [x19]) x5 x18 (wrap64 (x19 + 1)) x290000 x290001) else (none)) else (spec_NeedlessClues.l0 k x4 x5 x18 (wrap64 (x19 + 1)) x290000 x290001)))) else (some (x4, true))
def spec_NeedlessClues.f (k : Nat) (a0_0 : Int) (l0_1 : List (S42)) : Option (List Int × Bool) := (spec_pzGood.f k a0_0 l0_1).bind fun t290 => (if t290 = true then ((spec_pzAll.f k a0_0 l0_1).bind fun t291 => (spec_NeedlessClues.l0 k ([] : List Int) (t291.length : Int) (l0_1.length : Int) 0 a0_0 l0_1)) else (some (([] : List Int), false)))
theorem spec_NeedlessClues.mono_l : ∀ k, (∀ y0 y1 y2 y3 y4 y5, LeO (spec_NeedlessClues.l0 k y0 y1 y2 y3 y4 y5) (spec_NeedlessClues.l0 (k + 1) y0 y1 y2 y3 y4 y5))
  | 0 => fun _ _ _ _ _ _ r h => by simp [spec_NeedlessClues.l0] at h
  | k + 1 => by
    have ih0 := spec_NeedlessClues.mono_l k
    · intro y0 y1 y2 y3 y4 y5
      unfold spec_NeedlessClues.l0
      repeat' first
      | (with_reducible exact ih0 _ _ _ _ _ _)
      | (with_reducible exact spec_pzAll.mono _ _ _)
      | (with_reducible exact spec_pzGood.mono _ _ _)
      | (with_reducible exact LeO.refl _)
      | (with_reducible exact LeO.none _)
      | (with_reducible refine LeO.ite ?_ ?_)
      | (with_reducible refine LeO.bind ?_ (fun _ => ?_))
      | exact ih0 _ _ _ _ _ _
      | exact spec_pzAll.mono _ _ _
      | exact spec_pzGood.mono _ _ _
      | exact LeO.none _
      | refine LeO.ite ?_ ?_
      | refine LeO.bind ?_ (fun _ => ?_)
theorem spec_NeedlessClues.mono : ∀ a0 a1 k, LeO (spec_NeedlessClues.f k a0 a1) (spec_NeedlessClues.f (k + 1) a0 a1) := by
  intro a0 a1 k
  have ih0 := spec_NeedlessClues.mono_l k
  unfold spec_NeedlessClues.f
  repeat' first
      | (with_reducible exact ih0 _ _ _ _ _ _)
      | (with_reducible exact spec_pzAll.mono _ _ _)
      | (with_reducible exact spec_pzGood.mono _ _ _)
      | (with_reducible exact LeO.refl _)
      | (with_reducible exact LeO.none _)
      | (with_reducible refine LeO.ite ?_ ?_)
      | (with_reducible refine LeO.bind ?_ (fun _ => ?_))
      | exact ih0 _ _ _ _ _ _
      | exact spec_pzAll.mono _ _ _
      | exact spec_pzGood.mono _ _ _
      | exact LeO.none _
      | refine LeO.ite ?_ ?_
      | refine LeO.bind ?_ (fun _ => ?_)
def spec_NeedlessClues.T8 : Bool × List (List Nat × List Nat) := (true, [([], []), ([0], [0]), ([], []), ([2], [2]), ([], []), ([3, 4], [3, 4]), ([1, 5, 5], [1, 5]), ([6], [6]), ([], []), ([7, 8], [7, 8])])
def spec_NeedlessClues.B8 : List Nat := [0, 1, 0, 4, 0, 28, 63, 127, 0, 511]
theorem spec_NeedlessClues.tab8 : rtab .any (opsOf Tryz.f15 8) = spec_NeedlessClues.T8 := by kernel_rfl
theorem spec_NeedlessClues.bits8 : waitsOk spec_NeedlessClues.T8.2 spec_NeedlessClues.B8 = true := by kernel_rfl
set_option maxHeartbeats 8000000 in
set_option maxRecDepth 100000 in
theorem spec_NeedlessClues.calls (k : Nat) (a0_0 : Int) (A0_1 : Option Addr) (c0_1 : Nat) (l0_1 : List (S42)) (r1 : List Int) (r2 : Bool) (w : World) (hr0_1 : Kd.C k42 w A0_1 l0_1.length l0_1) (hc0_1 : l0_1.length ≤ c0_1) (h : spec_NeedlessClues.f k a0_0 l0_1 = some (r1, r2)) :
  Calls Tryz.prog 15 #[.agg #[.int .i64 a0_0, .slice A0_1 l0_1.length c0_1]] w fun e w' => ∃ v0_ : Value, e = .returned (.tuple #[v0_, .bool r2]) ∧ Kd.R (Kd.int .i64) 3 w' w.heap.size (fun _ => True) v0_ r1 ∧ Below w.heap.size w w' := by
 have hu24 := Tryz.underlying24
 have HR0_1 := Aside0.mk hr0_1
 have HC0_1 := Aside0.mk hc0_1
 clear hr0_1 hc0_1
 have HB := Aside0.mk (Below.refl w.heap.size w)
 unfold spec_NeedlessClues.f at h
 have H := h
 clear h
 obtain ⟨t290, A2, H⟩ := ob H
 (try dsimp only at H)
 go_enter Tryz.func15, Tryz.ntmps15
 go_wp2_with (((with_reducible refine gd 1 ?_); refine bx 1 24 #[.int .i64 a0_0, .slice A0_1 l0_1.length c0_1] ?_; intro gb289 hg w5 hbox hb; have BK289 := hbox; have GW289 := gs hg; have GE289 := gs hg; replace HB := bs hb; clear hb hbox hg; obtain ⟨hcz6_0, hcz6_1, hfz6_0, hfz6_1⟩ := z2 BK289; refine halt ?_))
 by_cases c3 : t290 = true
 ·subst c3
  rw [if_pos rfl] at H
  obtain ⟨t291, A4, H⟩ := ob H
  (try dsimp only at H)
  have H' := Aside0.mk H
  clear H
  refine Aside0.mk ?_
  try go_wp2_with (first | ((with_reducible refine gc 35 ?_); refine gl (some 8) Tryz.func35 #[.agg #[.int .i64 a0_0, .slice A0_1 l0_1.length c0_1]] ?_; (with_reducible refine (spec_pzGood.calls k a0_0 _ _ l0_1 true _ ?_ ?_ A2.out).mono ?_); exact cb HR0_1; exact HC0_1.out; rintro e w7 ⟨rfl, hb⟩; refine ⟨_, rfl, ?_⟩; replace BK289 := nk BK289 hb; replace HB := bs hb; (try clear hb); obtain ⟨hcz8_0, hcz8_1, hfz8_0, hfz8_1⟩ := z2 BK289) | ((with_reducible refine gc 36 ?_); refine gl (some 14) Tryz.func36 #[.int .i64 a0_0, .slice A0_1 l0_1.length c0_1] ?_; (with_reducible refine (spec_pzAll.calls k a0_0 _ _ l0_1 t291 _ ?_ ?_ A4.out).mono ?_); exact cb HR0_1; exact HC0_1.out; rintro e w9 ⟨v292, rfl, ho0, hb⟩; refine ⟨_, rfl, ?_⟩; have HO293 := Aside0.mk (Kd.R_lower ho0 (below_size bw)); replace BK289 := nk BK289 hb; replace HB := bs hb; (try clear hb); (try clear ho0); obtain ⟨Ao10, co10, eo10⟩ := Kd.R_slice HO293.out; subst eo10; obtain ⟨hcz11_0, hcz11_1, hfz11_0, hfz11_1⟩ := z2 BK289))
  go_loopg [4, 19] k (fun kq v4 v19 w' => ∃ (x4_1 : List Int) (x19_1 : Int), v19 = .int .i64 x19_1 ∧ Aside0 (spec_NeedlessClues.l0 kq x4_1 (t291.length : Int) (l0_1.length : Int) x19_1 a0_0 l0_1 = some (r1, r2)) ∧ Aside0 (kq ≤ k) ∧ Aside0 (Kd.R (Kd.int .i64) 3 w' w.heap.size (fun _ => True) v4 x4_1) ∧ Aside0 (w'.heap[gb289]? = some (.cells #[.int .i64 a0_0, (.slice A0_1 l0_1.length c0_1)] 24 (0, 0))) ∧ Aside0 (Below w.heap.size w w'))
  case atStart => exact ⟨(([] : List Int)), (0), (rs), H', ⟨Nat.le_refl _⟩, ⟨by first | exact Kd.R_nil _ _ _ _ _ | exact Kd.N_nil _ _ _ _ _ | exact Kd.V_nil _ _ _ _ _ | exact Kd.Q_nil _ _ _ _ _ | exact Kd.S_nil _ _ _ _ _⟩, ⟨pk BK289⟩, ⟨bw⟩⟩
  case round =>
   clear H'
   try clear c1
   try clear p2
   try clear c3
   try clear hcz11_0
   try clear hcz11_1
   try clear hcz6_0
   try clear hcz6_1
   try clear hcz8_0
   try clear hcz8_1
   try clear hfz11_0
   try clear hfz11_1
   try clear hfz6_0
   try clear hfz6_1
   try clear hfz8_0
   try clear hfz8_1
   obtain ⟨x4_1, x19_1, rfl, HA, HK1, HO_4, BK289, HB⟩ := hrel
   cases gk with
   | zero => exact absurd HA.out (by simp [spec_NeedlessClues.l0])
   | succ k1 =>
    have H := HA.out
    clear HA
    simp only [spec_NeedlessClues.l0] at H
    by_cases c12 : x19_1 < (l0_1.length : Int)
    ·rw [if_pos c12] at H
     have c12b0 := decide_eq_true c12
     clear c12
     obtain ⟨t294, A13, H⟩ := ob H
     (try dsimp only at H)
     obtain ⟨t297, A14, H⟩ := ob H
     (try dsimp only at H)
     by_cases c15 : (t297.length : Int) = (t291.length : Int)
     ·rw [if_pos c15] at H
      have c15b0 : ((t297.length : Int) == (t291.length : Int)) = true := beq_iff_eq.mpr c15
      have c15b1 : ((t297.length : Int) != (t291.length : Int)) = false := bne_eq_false_iff_eq.mpr c15
      have c15b2 : (t297.length == t291.length) = true := by first | simpa using c15 | (simp at c15 ⊢; omega)
      clear c15
      obtain ⟨c16, H⟩ := oi H
      have LMc16 := Aside0.mk c16
      clear c16
      obtain ⟨y300, hy300⟩ : ∃ y_ : List Int, y_ = (x4_1 ++ [x19_1]) := ⟨_, rfl⟩
      replace H : (spec_NeedlessClues.l0 k1 y300 (t291.length : Int) (l0_1.length : Int) (wrap64 (x19_1 + 1)) a0_0 l0_1) = some (r1, r2) := by first | (rw [hy300]; with_reducible exact H) | (have H2_ := (Option.bind_some _ _).symm.trans H; rw [hy300]; with_reducible exact H2_) | (have H2_ := (Option.bind_some _ _).symm.trans H; with_reducible exact H2_) | with_reducible exact H | (rw [hy300]; exact H) | exact H
      have Ny300 := Aside0.mk hy300
      clear hy300
      have H' := Aside0.mk H
      clear H
      try go_wp2
      replace HO_4 := Aside0.mk (Kd.R_drew HO_4.out)
      replace BK289 := Aside0.mk (blk_drew BK289.out)
      replace HB := Aside0.mk (below_drew1 HB.out)
      refine start_ (n := 10) (S := fun w' => w'.cell? ⟨gb289, 0, none⟩ = some (.int .i64 a0_0) ∧ w'.cell? ⟨gb289, 1, none⟩ = some (.slice A0_1 l0_1.length c0_1)) (ds := []) (tb 10 0) (by kernel_rfl) rfl rfl ⟨ec BK289, ec BK289⟩ (fun hHeld => ?_); refine with_tabW spec_NeedlessClues.tab8 spec_NeedlessClues.bits8 (fun HT_ HW_ => ?_)
      generalize wr.drew = w17 at HO_4 BK289 HB hHeld ⊢
      refine pu 0 (some 22) (tb 10 1) ?_
      refine pu 2 (some 24) (tb 10 5) ?_
      refine pu 4 (some 26) (tb 10 21) ?_
      refine pu 8 (some 30) (tb 10 277) ?_
      refine tk 1 (some 23) (tb 10 279) hHeld ?_
      refine tk 3 (some 25) (tb 10 287) hHeld ?_
      refine one_ (i := 5) (N := some 27) (tb 10 319) rfl rfl (one_of HT_.out (by kernel_rfl)) (by decide) (fun K hK => ?_)
      refine go1 Tryz.func39 #[.slice A0_1 l0_1.length c0_1, .int .i64 x19_1] ?_
      with_reducible refine (spec_pzWithout.calls _ _ l0_1 x19_1 t294 _ ?side1 ?side2 A13.out).mono ?_
      (case side1 => exact cb HR0_1)
      (case side2 => exact HC0_1.out)
      rintro e w18 ⟨v295, rfl, ho0, hb⟩
      refine ⟨_, rfl, ?_⟩
      replace HO_4 := rl HO_4 hb
      have HO296 := Aside0.mk (Kd.R_lower ho0 (below_size bw))
      replace BK289 := nk BK289 hb
      replace HB := bs hb
      (try clear hb)
      (try clear ho0)
      obtain ⟨Ao19, co19, eo19⟩ := Kd.R_slice HO296.out
      (first | subst eo19 | (injection eo19 with f1_ f2_ f3_; have f4_ := f1_.symm; have f5_ := f3_.symm; clear f1_ f2_ f3_; subst f4_; subst f5_))
      refine hK.out _ _ ⟨ec BK289, ec BK289⟩ (fun hHeld => ?_)
      clear hK K
      refine nm (some 27) ?_
      refine one_ (i := 6) (N := some 28) (tb 10 383) rfl rfl (one_of HT_.out (by kernel_rfl)) (by decide) (fun K hK => ?_)
      refine go1 Tryz.func36 #[.int .i64 a0_0, .slice Ao19 t294.length co19] ?_
      with_reducible refine (spec_pzAll.calls k1 a0_0 _ _ t294 t297 _ ?side1 ?side2 A14.out).mono ?_
      (case side1 => exact rr HO296)
      (case side2 => exact rn HO296)
      rintro e w20 ⟨v298, rfl, ho0, hb⟩
      refine ⟨_, rfl, ?_⟩
      replace HO_4 := rl HO_4 hb
      replace HO296 := rl HO296 hb
      have HO299 := Aside0.mk (Kd.R_lower ho0 (below_size bw))
      replace BK289 := nk BK289 hb
      replace HB := bs hb
      (try clear hb)
      (try clear ho0)
      obtain ⟨Ao21, co21, eo21⟩ := Kd.R_slice HO299.out
      (first | subst eo21 | (injection eo21 with f1_ f2_ f3_; have f4_ := f1_.symm; have f5_ := f3_.symm; clear f1_ f2_ f3_; subst f4_; subst f5_))
      refine hK.out _ _ ⟨ec BK289, ec BK289⟩ (fun hHeld => ?_)
      clear hK K
      refine nm (some 28) ?_
      refine pu 7 (some 29) (tb 10 511) ?_
      refine pu 9 (some 31) (tb 10 1023) ?_
      refine done_ (done_of HT_.out (by kernel_rfl)) ?_
      try go_wp2_with (first | ((with_reducible refine gate_builtin (b := .append) (xs := #[.tmp 32, .tmp 34]) rfl ?_); at_builtin; refine Kd.R_append (Kd.int .i64) (w0 := w) w.heap.size rfl (.tmp 32) (.tmp 34) 34 3 (.int .i64 0) 8 rfl Tryz.underlying34 info3 rfl (by decide) (by omega) u4 x4_1 x19_1 [.int .i64 x19_1] (fun _ => True) (fun _ => False) rfl rfl ?aP (fun _ hk => hk.elim) ?aF ?aO ?aB ?aS ?aL ?_; (case aP => exact rfl); (case aB => exact bw); (case aF => exact (fun _ _ => trivial)); (case aO => exact (pr HO_4)); (case aS => exact (below_size bw)); (case aL => have := LMc16.out; omega); intro v301 w22 ho hb hg hat; rw [← Ny300.out] at ho; have n0_ := Aside0.mk (blk_grown (pk BK289) hg (Kd.R_ne HO_4.out BK289.out (by decide))); have n1_ := Aside0.mk (Kd.R_over' (pr HO296) (Kd.R_typed (pr HO_4)) (by decide) hg); have n2_ := Aside0.mk (Kd.R_over' (pr HO299) (Kd.R_typed (pr HO_4)) (by decide) hg); have n3_ := Aside0.mk (hb); have n4_ := Aside0.mk (ho); clear BK289; clear HO296; clear HO299; clear HB; clear HO_4; have BK289 := n0_; have HO296 := n1_; have HO299 := n2_; have HB := n3_; have HO302 := n4_; clear n0_ n1_ n2_ n3_ n4_; clear ho hb hg hat))
      go_roundg k1
      case measure => have := HK1.out; omega
      case rel => exact ⟨(y300), (wrap64 (x19_1 + 1)), (rs), H', ⟨by have := HK1.out; omega⟩, ⟨pr HO302⟩, ⟨pk BK289⟩, ⟨bw⟩⟩
     rw [if_neg c15] at H
     have c15b0 : ((t297.length : Int) == (t291.length : Int)) = false := beq_eq_false_iff_ne.mpr c15
     have c15b1 : ((t297.length : Int) != (t291.length : Int)) = true := bne_iff_ne.mpr c15
     have c15b2 : (t297.length == t291.length) = false := by first | simpa using c15 | (simp at c15 ⊢; omega)
     have H' := Aside0.mk H
     clear H
     try go_wp2
     replace HO_4 := Aside0.mk (Kd.R_drew HO_4.out)
     replace BK289 := Aside0.mk (blk_drew BK289.out)
     replace HB := Aside0.mk (below_drew1 HB.out)
     refine start_ (n := 10) (S := fun w' => w'.cell? ⟨gb289, 0, none⟩ = some (.int .i64 a0_0) ∧ w'.cell? ⟨gb289, 1, none⟩ = some (.slice A0_1 l0_1.length c0_1)) (ds := []) (tb 10 0) (by kernel_rfl) rfl rfl ⟨ec BK289, ec BK289⟩ (fun hHeld => ?_); refine with_tabW spec_NeedlessClues.tab8 spec_NeedlessClues.bits8 (fun HT_ HW_ => ?_)
     generalize wr.drew = w23 at HO_4 BK289 HB hHeld ⊢
     refine pu 0 (some 22) (tb 10 1) ?_
     refine pu 2 (some 24) (tb 10 5) ?_
     refine pu 4 (some 26) (tb 10 21) ?_
     refine pu 8 (some 30) (tb 10 277) ?_
     refine tk 1 (some 23) (tb 10 279) hHeld ?_
     refine tk 3 (some 25) (tb 10 287) hHeld ?_
     refine one_ (i := 5) (N := some 27) (tb 10 319) rfl rfl (one_of HT_.out (by kernel_rfl)) (by decide) (fun K hK => ?_)
     refine go1 Tryz.func39 #[.slice A0_1 l0_1.length c0_1, .int .i64 x19_1] ?_
     with_reducible refine (spec_pzWithout.calls _ _ l0_1 x19_1 t294 _ ?side1 ?side2 A13.out).mono ?_
     (case side1 => exact cb HR0_1)
     (case side2 => exact HC0_1.out)
     rintro e w24 ⟨v295, rfl, ho0, hb⟩
     refine ⟨_, rfl, ?_⟩
     replace HO_4 := rl HO_4 hb
     have HO296 := Aside0.mk (Kd.R_lower ho0 (below_size bw))
     replace BK289 := nk BK289 hb
     replace HB := bs hb
     (try clear hb)
     (try clear ho0)
     obtain ⟨Ao25, co25, eo25⟩ := Kd.R_slice HO296.out
     (first | subst eo25 | (injection eo25 with f1_ f2_ f3_; have f4_ := f1_.symm; have f5_ := f3_.symm; clear f1_ f2_ f3_; subst f4_; subst f5_))
     refine hK.out _ _ ⟨ec BK289, ec BK289⟩ (fun hHeld => ?_)
     clear hK K
     refine nm (some 27) ?_
     refine one_ (i := 6) (N := some 28) (tb 10 383) rfl rfl (one_of HT_.out (by kernel_rfl)) (by decide) (fun K hK => ?_)
     refine go1 Tryz.func36 #[.int .i64 a0_0, .slice Ao25 t294.length co25] ?_
     with_reducible refine (spec_pzAll.calls k1 a0_0 _ _ t294 t297 _ ?side1 ?side2 A14.out).mono ?_
     (case side1 => exact rr HO296)
     (case side2 => exact rn HO296)
     rintro e w26 ⟨v298, rfl, ho0, hb⟩
     refine ⟨_, rfl, ?_⟩
     replace HO_4 := rl HO_4 hb
     replace HO296 := rl HO296 hb
     have HO299 := Aside0.mk (Kd.R_lower ho0 (below_size bw))
     replace BK289 := nk BK289 hb
     replace HB := bs hb
     (try clear hb)
     (try clear ho0)
     obtain ⟨Ao27, co27, eo27⟩ := Kd.R_slice HO299.out
     (first | subst eo27 | (injection eo27 with f1_ f2_ f3_; have f4_ := f1_.symm; have f5_ := f3_.symm; clear f1_ f2_ f3_; subst f4_; subst f5_))
     refine hK.out _ _ ⟨ec BK289, ec BK289⟩ (fun hHeld => ?_)
     clear hK K
     refine nm (some 28) ?_
     refine pu 7 (some 29) (tb 10 511) ?_
     refine pu 9 (some 31) (tb 10 1023) ?_
     refine done_ (done_of HT_.out (by kernel_rfl)) ?_
     try go_wp2
     go_roundg k1
     case measure => have := HK1.out; omega
     case rel => exact ⟨(x4_1), (wrap64 (x19_1 + 1)), (rs), H', ⟨by have := HK1.out; omega⟩, ⟨pr HO_4⟩, ⟨pk BK289⟩, ⟨bw⟩⟩
    rw [if_neg c12] at H
    have c12b0 := decide_eq_false c12
    clear c12
    simp only [Option.some.injEq, Prod.mk.injEq] at H
    obtain ⟨rfl, rfl⟩ := H
    go_wp2
    go_ret2
    exact ⟨_, rs, pr HO_4, bw⟩
 replace c3 := Bool.eq_false_iff.mpr c3
 subst c3
 rw [if_neg (show ¬ (false = true) by decide)] at H
 simp only [Option.some.injEq, Prod.mk.injEq] at H
 obtain ⟨rfl, rfl⟩ := H
 refine Aside0.mk ?_
 try go_wp2_with (((with_reducible refine gc 35 ?_); refine gl (some 8) Tryz.func35 #[.agg #[.int .i64 a0_0, .slice A0_1 l0_1.length c0_1]] ?_; (with_reducible refine (spec_pzGood.calls k a0_0 _ _ l0_1 false _ ?_ ?_ A2.out).mono ?_); exact cb HR0_1; exact HC0_1.out; rintro e w30 ⟨rfl, hb⟩; refine ⟨_, rfl, ?_⟩; replace HB := bs hb; (try clear hb)))
 go_ret2
 exact ⟨_, rs, by first | exact Kd.R_nil _ _ _ _ _ | exact Kd.N_nil _ _ _ _ _ | exact Kd.V_nil _ _ _ _ _ | exact Kd.Q_nil _ _ _ _ _ | exact Kd.S_nil _ _ _ _ _, bw⟩

/-! ### impl_LeftByClues: function 16 -/
def impl_LeftByClues.l0 : Nat → List Int → Int → Int → Int → List (S42) → Option (List Int × Bool)
  | 0, _, _, _, _, _ => none
  | k + 1, x4, x13, x14, x304000, x304001 => if x14 < x13 then (if 0 ≤ x14 then (if x14 ≤ (x304001.length : Int) then ((impl_solutions.f k x304000 (x304001.take (x14 : Int).toNat)).bind fun t312 => (if x4.length < 17592186044416 then (impl_LeftByClues.l0 k (x4 ++ [(t312.length : Int)]) x13 (wrap64 (x14 + 1)) x304000 x304001) else (none))) else (none)) else (none)) else (some (x4, true))
def impl_LeftByClues.f (k : Nat) (a0_0 : Int) (l0_1 : List (S42)) : Option (List Int × Bool) := (impl_isPuzzle.f k a0_0 l0_1).bind fun t304 => (if t304 = true then (impl_LeftByClues.l0 k (([] : List Int)) (wrap64 ((l0_1.length : Int) + 1)) 0 a0_0 l0_1) else (some (([] : List Int), false)))
theorem impl_LeftByClues.mono_l : ∀ k, (∀ y0 y1 y2 y3 y4, LeO (impl_LeftByClues.l0 k y0 y1 y2 y3 y4) (impl_LeftByClues.l0 (k + 1) y0 y1 y2 y3 y4))
  | 0 => fun _ _ _ _ _ r h => by simp [impl_LeftByClues.l0] at h
  | k + 1 => by
    have ih0 := impl_LeftByClues.mono_l k
    · intro y0 y1 y2 y3 y4
      unfold impl_LeftByClues.l0
      repeat' first
      | (with_reducible exact ih0 _ _ _ _ _)
      | (with_reducible exact impl_isPuzzle.mono _ _ _)
      | (with_reducible exact impl_solutions.mono _ _ _)
      | (with_reducible exact LeO.refl _)
      | (with_reducible exact LeO.none _)
      | (with_reducible refine LeO.ite ?_ ?_)
      | (with_reducible refine LeO.bind ?_ (fun _ => ?_))
      | exact ih0 _ _ _ _ _
      | exact impl_isPuzzle.mono _ _ _
      | exact impl_solutions.mono _ _ _
      | exact LeO.none _
      | refine LeO.ite ?_ ?_
      | refine LeO.bind ?_ (fun _ => ?_)
theorem impl_LeftByClues.mono : ∀ a0 a1 k, LeO (impl_LeftByClues.f k a0 a1) (impl_LeftByClues.f (k + 1) a0 a1) := by
  intro a0 a1 k
  have ih0 := impl_LeftByClues.mono_l k
  unfold impl_LeftByClues.f
  repeat' first
      | (with_reducible exact ih0 _ _ _ _ _)
      | (with_reducible exact impl_isPuzzle.mono _ _ _)
      | (with_reducible exact impl_solutions.mono _ _ _)
      | (with_reducible exact LeO.refl _)
      | (with_reducible exact LeO.none _)
      | (with_reducible refine LeO.ite ?_ ?_)
      | (with_reducible refine LeO.bind ?_ (fun _ => ?_))
      | exact ih0 _ _ _ _ _
      | exact impl_isPuzzle.mono _ _ _
      | exact impl_solutions.mono _ _ _
      | exact LeO.none _
      | refine LeO.ite ?_ ?_
      | refine LeO.bind ?_ (fun _ => ?_)
def impl_LeftByClues.T7 : Bool × List (List Nat × List Nat) := (true, [([], []), ([], []), ([1], [1]), ([], []), ([3], [3]), ([], []), ([4, 5], [4, 5]), ([2, 6], [2, 6]), ([7], [7]), ([8], [8]), ([0, 9, 7], [0, 9]), ([10, 10, 0, 1, 2, 3, 4, 5, 6, 7, 8, 9, 10], [0, 10])])
def impl_LeftByClues.B7 : List Nat := [0, 0, 2, 0, 8, 0, 56, 126, 254, 510, 1023, 2047]
theorem impl_LeftByClues.tab7 : rtab .any (opsOf Tryz.f16 7) = impl_LeftByClues.T7 := by kernel_rfl
theorem impl_LeftByClues.bits7 : waitsOk impl_LeftByClues.T7.2 impl_LeftByClues.B7 = true := by kernel_rfl
set_option maxHeartbeats 8000000 in
set_option maxRecDepth 100000 in
theorem impl_LeftByClues.calls (k : Nat) (a0_0 : Int) (A0_1 : Option Addr) (c0_1 : Nat) (l0_1 : List (S42)) (r1 : List Int) (r2 : Bool) (w : World) (hm : Dr.Tab w) (hr0_1 : Kd.C k42 w A0_1 l0_1.length l0_1) (hc0_1 : l0_1.length ≤ c0_1) (h : impl_LeftByClues.f k a0_0 l0_1 = some (r1, r2)) :
  Calls Tryz.prog 16 #[.agg #[.int .i64 a0_0, .slice A0_1 l0_1.length c0_1]] w fun e w' => ∃ v0_ : Value, e = .returned (.tuple #[v0_, .bool r2]) ∧ Kd.R (Kd.int .i64) 3 w' w.heap.size (fun _ => True) v0_ r1 ∧ Below w.heap.size w w' := by
 have hu24 := Tryz.underlying24
 have HR0_1 := Aside0.mk hr0_1
 have HC0_1 := Aside0.mk hc0_1
 clear hr0_1 hc0_1
 have HB := Aside0.mk (Below.refl w.heap.size w)
 have HMM := Aside0.mk hm
 clear hm
 unfold impl_LeftByClues.f at h
 have H := h
 clear h
 obtain ⟨t304, A2, H⟩ := ob H
 (try dsimp only at H)
 go_enter Tryz.func16, Tryz.ntmps16
 go_wp2_with (((with_reducible refine gd 1 ?_); refine bx 1 24 #[.int .i64 a0_0, .slice A0_1 l0_1.length c0_1] ?_; intro gb303 hg w4 hbox hb; have BK303 := hbox; have GW303 := gs hg; have GE303 := gs hg; replace HB := bs hb; clear hb hbox hg; obtain ⟨hcz5_0, hcz5_1, hfz5_0, hfz5_1⟩ := z2 BK303; refine halt ?_))
 by_cases c3 : t304 = true
 ·subst c3
  rw [if_pos rfl] at H
  obtain ⟨y305, hy305⟩ : ∃ y_ : List Int, y_ = (([] : List Int)) := ⟨_, rfl⟩
  replace H : (impl_LeftByClues.l0 k y305 (wrap64 ((l0_1.length : Int) + 1)) 0 a0_0 l0_1) = some (r1, r2) := by first | (rw [hy305]; with_reducible exact H) | (have H2_ := (Option.bind_some _ _).symm.trans H; rw [hy305]; with_reducible exact H2_) | (have H2_ := (Option.bind_some _ _).symm.trans H; with_reducible exact H2_) | with_reducible exact H | (rw [hy305]; exact H) | exact H
  have Ny305 := Aside0.mk hy305
  clear hy305
  have H' := Aside0.mk H
  clear H
  refine Aside0.mk ?_
  try go_wp2_with (first | ((with_reducible refine gc 33 ?_); refine gl (some 7) Tryz.func33 #[.agg #[.int .i64 a0_0, .slice A0_1 l0_1.length c0_1]] ?_; (with_reducible refine (impl_isPuzzle.calls k a0_0 _ _ l0_1 true _ ?_ ?_ A2.out).mono ?_); exact cb HR0_1; exact HC0_1.out; rintro e w6 ⟨rfl, hb⟩; refine ⟨_, rfl, ?_⟩; replace BK303 := nk BK303 hb; replace HB := bs hb; (try clear hb)) | ((with_reducible refine gd 9 ?_); refine Kd.R_lit (Kd.int .i64) _ 3 ?hg (N := 9) ?hd (xs := ([] : List Int)) (inner := []) (ok := fun _ => True) (okp := fun _ => True) ?hr ?hp (fun _ hk => hk) trivial (Below.refl _ _) (Nat.le_refl _) (by simp) ?_; (case hd => rfl); (case hg => rfl); (case hr => first | (go_simp; done) | (go_simp; rfl)); (case hp => exact (Reps.none _ _)); intro v306 w7 ho8 hb hg_ hnew_; clear hg_ hnew_; (first | rw [← Ny305.out] at ho8 | (simp only [Int.reduceToNat] at ho8; rw [← Ny305.out] at ho8)); have HO307 := Aside0.mk (Kd.R_lower ho8 (below_size bw)); replace BK303 := nk BK303 hb; replace HB := bs hb; clear hb ho8; obtain ⟨hcz9_0, hcz9_1, hfz9_0, hfz9_1⟩ := z2 BK303))
  go_loopg [4, 14] k (fun kq v4 v14 w' => ∃ (x4_1 : List Int) (x14_1 : Int), v14 = .int .i64 x14_1 ∧ Aside0 (impl_LeftByClues.l0 kq x4_1 (wrap64 ((l0_1.length : Int) + 1)) x14_1 a0_0 l0_1 = some (r1, r2)) ∧ Aside0 (kq ≤ k) ∧ Aside0 (Kd.R (Kd.int .i64) 3 w' w.heap.size (fun _ => True) v4 x4_1) ∧ Aside0 (w'.heap[gb303]? = some (.cells #[.int .i64 a0_0, (.slice A0_1 l0_1.length c0_1)] 24 (0, 0))) ∧ Aside0 (Below w.heap.size w w'))
  case atStart => exact ⟨(y305), (0), (rs), H', ⟨Nat.le_refl _⟩, ⟨pr HO307⟩, ⟨pk BK303⟩, ⟨bw⟩⟩
  case round =>
   clear H'
   try clear c1
   try clear p2
   try clear c3
   try clear p6
   try clear hcz5_0
   try clear hcz5_1
   try clear hcz9_0
   try clear hcz9_1
   try clear hfz5_0
   try clear hfz5_1
   try clear hfz9_0
   try clear hfz9_1
   obtain ⟨x4_1, x14_1, rfl, HA, HK1, HO_4, BK303, HB⟩ := hrel
   cases gk with
   | zero => exact absurd HA.out (by simp [impl_LeftByClues.l0])
   | succ k1 =>
    have H := HA.out
    clear HA
    simp only [impl_LeftByClues.l0] at H
    by_cases c10 : x14_1 < (wrap64 ((l0_1.length : Int) + 1))
    ·rw [if_pos c10] at H
     have c10b0 := decide_eq_true c10
     clear c10
     obtain ⟨c11, H⟩ := oi H
     have c11b0 := eq_true c11
     have c11b1 := decide_eq_true c11
     clear c11
     obtain ⟨c12, H⟩ := oi H
     have c12b0 := eq_true c12
     have c12b1 := decide_eq_true c12
     clear c12
     obtain ⟨y308, hy308⟩ : ∃ y_ : List (S42), y_ = (l0_1.take (x14_1 : Int).toNat) := ⟨_, rfl⟩
     replace H : ((impl_solutions.f k1 a0_0 y308).bind fun t312 => (if x4_1.length < 17592186044416 then (impl_LeftByClues.l0 k1 (x4_1 ++ [(t312.length : Int)]) (wrap64 ((l0_1.length : Int) + 1)) (wrap64 (x14_1 + 1)) a0_0 l0_1) else (none))) = some (r1, r2) := by first | (rw [hy308]; with_reducible exact H) | (have H2_ := (Option.bind_some _ _).symm.trans H; rw [hy308]; with_reducible exact H2_) | (have H2_ := (Option.bind_some _ _).symm.trans H; with_reducible exact H2_) | with_reducible exact H | (rw [hy308]; exact H) | exact H
     have Ny308 := Aside0.mk hy308
     clear hy308
     obtain ⟨t312, A13, H⟩ := ob H
     (try dsimp only at H)
     obtain ⟨c14, H⟩ := oi H
     have LMc14 := Aside0.mk c14
     clear c14
     obtain ⟨y315, hy315⟩ : ∃ y_ : List Int, y_ = (x4_1 ++ [(t312.length : Int)]) := ⟨_, rfl⟩
     replace H : (impl_LeftByClues.l0 k1 y315 (wrap64 ((l0_1.length : Int) + 1)) (wrap64 (x14_1 + 1)) a0_0 l0_1) = some (r1, r2) := by first | (rw [hy315]; with_reducible exact H) | (have H2_ := (Option.bind_some _ _).symm.trans H; rw [hy315]; with_reducible exact H2_) | (have H2_ := (Option.bind_some _ _).symm.trans H; with_reducible exact H2_) | with_reducible exact H | (rw [hy315]; exact H) | exact H
     have Ny315 := Aside0.mk hy315
     clear hy315
     have H' := Aside0.mk H
     clear H
     try go_wp2
     replace HO_4 := Aside0.mk (Kd.R_drew HO_4.out)
     replace BK303 := Aside0.mk (blk_drew BK303.out)
     replace HB := Aside0.mk (below_drew1 HB.out)
     have q16 : (x14_1 : Int) ≤ ((l0_1.length : Int) : Int) := of_decide_eq_true asm
     obtain ⟨i016, hi016, _, hsz16, _⟩ := info_parts info42
     have hroom16 : l0_1.length ≤ c0_1 := HC0_1.out
     have hC16 : Kd.C k42 _ A0_1 l0_1.length l0_1 := HR0_1.out
     have hcut16 := cut_to (P := Tryz.prog) 22 42 .i64 Tryz.underlying22 hi016 A0_1 l0_1.length c0_1 x14_1 (of_decide_eq_true asm) q16 hroom16
     have hr16 := Kd.C_take (m := (x14_1 : Int).toNat) hC16 (by omega)
     have hy16 : y308.length = (x14_1 : Int).toNat := (by rw [Ny308.out, List.length_take]; omega)
     rw [← Ny308.out] at hr16
     rw [← hy16] at hcut16
     have HR311 := Aside0.mk hr16
     have HC311 := Aside0.mk (show y308.length ≤ c0_1 from by omega)
     clear hr16 hC16 hroom16 hi016 hsz16
     have KY16 := Aside0.mk hy16
     clear hy16
     replace q16 := eq_true q16
     refine start_ (n := 12) (S := fun w' => w'.cell? ⟨gb303, 0, none⟩ = some (.int .i64 a0_0) ∧ w'.cell? ⟨gb303, 1, none⟩ = some (.slice A0_1 l0_1.length c0_1)) (ds := []) (tb 12 0) (by kernel_rfl) rfl rfl ⟨ec BK303, ec BK303⟩ (fun hHeld => ?_); refine with_tabW impl_LeftByClues.tab7 impl_LeftByClues.bits7 (fun HT_ HW_ => ?_)
     generalize wr.drew = w15 at HO_4 BK303 HB HR311 hHeld ⊢
     refine pu 0 (some 17) (tb 12 1) ?_
     refine pu 1 (some 18) (tb 12 3) ?_
     refine pu 3 (some 20) (tb 12 11) ?_
     refine pu 5 (some 22) (tb 12 43) ?_
     refine tk 2 (some 19) (tb 12 47) hHeld ?_
     refine tk 4 (some 21) (tb 12 63) hHeld ?_
     refine pu 6 (some 23) (tb 12 127) ?_
     refine one_ (i := 7) (N := some 24) (tb 12 255) rfl rfl (one_of HT_.out (by kernel_rfl)) (by decide) (fun K hK => ?_)
     refine go1 Tryz.func34 #[.int .i64 a0_0, .slice A0_1 y308.length c0_1] ?_
     with_reducible refine (impl_solutions.calls k1 a0_0 _ _ y308 t312 _ ?side1 ?side2 ?side3 A13.out).mono ?_
     (case side1 => exact Dr.mm HMM)
     (case side2 => exact cb HR311)
     (case side3 => exact HC311.out)
     rintro e w17 ⟨v313, rfl, ho0, hb⟩
     refine ⟨_, rfl, ?_⟩
     replace HO_4 := rl HO_4 hb
     have HO314 := Aside0.mk (Kd.R_lower ho0 (below_size bw))
     replace BK303 := nk BK303 hb
     replace HB := bs hb
     (try clear hb)
     (try clear ho0)
     obtain ⟨Ao18, co18, eo18⟩ := Kd.R_slice HO314.out
     (first | subst eo18 | (injection eo18 with f1_ f2_ f3_; have f4_ := f1_.symm; have f5_ := f3_.symm; clear f1_ f2_ f3_; subst f4_; subst f5_))
     refine hK.out _ _ ⟨ec BK303, ec BK303⟩ (fun hHeld => ?_)
     clear hK K
     refine nm (some 24) ?_
     refine pu 8 (some 25) (tb 12 511) ?_
     refine one_ (i := 9) (N := some 26) (tb 12 1023) rfl rfl (one_of HT_.out (by kernel_rfl)) (by decide) (fun K hK => ?_)
     refine value_ (w1 := ?_) (v := ?_) (by rfl) rfl ?_ ?_
     rotate_left 2
     ·go_simp
      constructor
      ·rfl
      rfl
     refine hK.out _ _ ⟨(blk_cell (blk_alloc BK303.out _) 0).trans rfl, (blk_cell (blk_alloc BK303.out _) 1).trans rfl⟩ (fun hHeld => ?_)
     clear hK K
     refine nm (some 26) ?_
     refine one_ (i := 10) (N := some 27) (tb 12 2047) rfl rfl (one_of HT_.out (by kernel_rfl)) (by decide) (fun K hK => ?_)
     refine Kd.R_append_step (Kd.int .i64) (w0 := w) w.heap.size (by rfl) (.tmp 17) (.tmp 26) 34 3 (.int .i64 0) 8 rfl Tryz.underlying34 info3 rfl (by decide) (by omega) u4 x4_1 (t312.length : Int) [.int .i64 (t312.length : Int)] (fun _ => True) (fun _ => False) rfl rfl ?aP (fun _ hk => hk.elim) ?aF ?aO ?aB ?aS ?aL ?_
     (case aP => exact rfl)
     (case aB => exact bw)
     (case aF => exact (fun _ _ => trivial))
     (case aO => exact (pr HO_4))
     (case aS => exact (below_size bw))
     (case aL => have := LMc14.out; omega)
     intro v316 w19 ho hb hg hat
     rw [← Ny315.out] at ho
     have n0_ := Aside0.mk (blk_grown (pk BK303) hg (Kd.R_ne HO_4.out BK303.out (by decide)))
     have n1_ := Aside0.mk (Kd.R_over' (pr HO314) (Kd.R_typed (pr HO_4)) (by decide) hg)
     have n2_ := Aside0.mk (hb)
     have n3_ := Aside0.mk (ho)
     clear BK303
     clear HO314
     clear HB
     clear HO_4
     have BK303 := n0_
     have HO314 := n1_
     have HB := n2_
     have HO317 := n3_
     clear n0_ n1_ n2_ n3_
     clear ho hb hg hat
     refine hK.out _ _ ⟨ec BK303, ec BK303⟩ (fun hHeld => ?_)
     clear hK K
     refine nm (some 27) ?_
     refine pu 11 (some 4) (tb 12 4095) ?_
     refine done_ (done_of HT_.out (by kernel_rfl)) ?_
     try go_wp2
     go_roundg k1
     case measure => have := HK1.out; omega
     case rel => exact ⟨(y315), (wrap64 (x14_1 + 1)), (rs), H', ⟨by have := HK1.out; omega⟩, ⟨pr HO317⟩, ⟨pk BK303⟩, ⟨bw⟩⟩
    rw [if_neg c10] at H
    have c10b0 := decide_eq_false c10
    clear c10
    simp only [Option.some.injEq, Prod.mk.injEq] at H
    obtain ⟨rfl, rfl⟩ := H
    go_wp2
    go_ret2
    exact ⟨_, rs, pr HO_4, bw⟩
 replace c3 := Bool.eq_false_iff.mpr c3
 subst c3
 rw [if_neg (show ¬ (false = true) by decide)] at H
 simp only [Option.some.injEq, Prod.mk.injEq] at H
 obtain ⟨rfl, rfl⟩ := H
 refine Aside0.mk ?_
 try go_wp2_with (((with_reducible refine gc 33 ?_); refine gl (some 7) Tryz.func33 #[.agg #[.int .i64 a0_0, .slice A0_1 l0_1.length c0_1]] ?_; (with_reducible refine (impl_isPuzzle.calls k a0_0 _ _ l0_1 false _ ?_ ?_ A2.out).mono ?_); exact cb HR0_1; exact HC0_1.out; rintro e w22 ⟨rfl, hb⟩; refine ⟨_, rfl, ?_⟩; replace HB := bs hb; (try clear hb)))
 go_ret2
 exact ⟨_, rs, by first | exact Kd.R_nil _ _ _ _ _ | exact Kd.N_nil _ _ _ _ _ | exact Kd.V_nil _ _ _ _ _ | exact Kd.Q_nil _ _ _ _ _ | exact Kd.S_nil _ _ _ _ _, bw⟩

end Go.Proofs.YtfaakdokcldnkaaGreatDoor.PFnRowsGuessedOfAll
