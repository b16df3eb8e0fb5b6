-- Laid by xprint, a program of this session that runs over the kit's print.
import Derived.Test.YtonhhfhlhlifcaaGreatDoorPFnRowsHiddenOfAllx15
namespace Go.Proofs.YtonhhfhlhlifcaaGreatDoor.PFnRowsHiddenOfAll
open Go.RowKit Go.Proofs.YtonhhfhlhlifcaaGreatDoorW.PrintWords Go.Proofs.YtonhhfhlhlifcaaGreatDoorW.PrintLast Go.Proofs.YtonhhfhlhlifcaaGreatDoorW.PrintMore Go.Proofs.YtonhhfhlhlifcaaGreatDoor.Sq
attribute [local go_sem] max2_int min2_int max_two min_two max_three min_three max_four min_four   -- for this text's walks alone
set_option linter.unusedVariables false
set_option linter.unusedSimpArgs false

/-! ### spec_DropClue: function 22 -/
def spec_DropClue.f (k : Nat) (a0_0 : Int) (l0_1 : List (S26)) (a1 : Int) : Option (Int × (List (S26)) × Bool) := (spec_pzGood.f k a0_0 l0_1).bind fun t360 => (if t360 = true then ((spec_l1In.f a1 0 (wrap64 ((l0_1.length : Int) - 1))).bind fun t361 => (if t361 = true then ((spec_pzWithout.f l0_1 a1).bind fun t362 => (some (a0_0, t362, true))) else (some (0, ([] : List (S26)), false)))) else (some (0, ([] : List (S26)), false)))
theorem spec_DropClue.mono : ∀ a0 a1 a2 k, LeO (spec_DropClue.f k a0 a1 a2) (spec_DropClue.f (k + 1) a0 a1 a2) := by
  intro a0 a1 a2 k
  unfold spec_DropClue.f
  repeat' first
      | (with_reducible exact spec_pzGood.mono _ _ _)
      | (with_reducible exact LeO.refl _)
      | (with_reducible exact LeO.none _)
      | (with_reducible refine LeO.ite ?_ ?_)
      | (with_reducible refine LeO.bind ?_ (fun _ => ?_))
      | exact spec_pzGood.mono _ _ _
      | exact LeO.none _
      | refine LeO.ite ?_ ?_
      | refine LeO.bind ?_ (fun _ => ?_)
def spec_DropClue.T3 : Bool × List (List Nat × List Nat) := (true, [([], []), ([0], [0]), ([], []), ([2], [2]), ([], []), ([3, 4], [3, 4]), ([1, 5], [1, 5]), ([6, 5, 0, 1, 2, 3, 4, 5, 6], [6]), ([7, 0, 1, 2, 3, 4, 5, 6, 7], [])])
def spec_DropClue.B3 : List Nat := [0, 1, 0, 4, 0, 28, 63, 127, 255]
theorem spec_DropClue.tab3 : rtab .any (opsOf Tryz.f22 3) = spec_DropClue.T3 := by kernel_rfl
theorem spec_DropClue.bits3 : waitsOk spec_DropClue.T3.2 spec_DropClue.B3 = true := by kernel_rfl
set_option maxHeartbeats 8000000 in
set_option maxRecDepth 100000 in
theorem spec_DropClue.calls (k : Nat) (a0_0 : Int) (A0_1 : Option Addr) (c0_1 : Nat) (l0_1 : List (S26)) (a1 : Int) (r1 : Int) (r2 : List (S26)) (r3 : Bool) (w : World) (hr0_1 : Kd.C k26 w A0_1 l0_1.length l0_1) (hc0_1 : l0_1.length ≤ c0_1) (h : spec_DropClue.f k a0_0 l0_1 a1 = some (r1, r2, r3)) :
  Calls Tryz.prog 22 #[.agg #[.int .i64 a0_0, .slice A0_1 l0_1.length c0_1], .int .i64 a1] w fun e w' => ∃ v1_ : Value, e = .returned (.tuple #[.agg #[.int .i64 r1, v1_], .bool r3]) ∧ Kd.R k26 26 w' w.heap.size (fun _ => True) v1_ r2 ∧ Below w.heap.size w w' := by
 have hu24 := Tryz.underlying24
 have HR0_1 := Aside0.mk hr0_1
 have HC0_1 := Aside0.mk hc0_1
 clear hr0_1 hc0_1
 have HB := Aside0.mk (Below.refl w.heap.size w)
 unfold spec_DropClue.f at h
 have H := h
 clear h
 obtain ⟨t360, A3, H⟩ := ob H
 (try dsimp only at H)
 go_enter Tryz.func22, Tryz.ntmps22
 try go_wp2_with (first | ((with_reducible refine gd 2 ?_); (try (refine gate_guard (by rfl) ?_; dsimp only)); refine bx 2 24 #[.int .i64 a0_0, .slice A0_1 l0_1.length c0_1] ?_; intro gb358 hg w8 hbox hb; have BK358 := hbox; have GW358 := gs hg; have GE358 := gs hg; replace HB := bs hb; clear hb hbox hg) | ((with_reducible refine gd 4 ?_); (try (refine gate_guard (by rfl) ?_; dsimp only)); refine bx 4 24 #[.int .i64 0, .slice none 0 0] ?_; intro gb359 hg w9 hbox hb; have BK359 := hbox; have GW359 := gs hg; have GE359 := gs hg; replace HB := bs hb; have ⟨NB358_359, NB359_358⟩ := nn BK358 hg; replace BK358 := nk BK358 hb; clear hb hbox hg; have hnb10 := nb NB358_359; obtain ⟨hcz11_0, hcz11_1, hfz11_0, hfz11_1⟩ := z2 BK358; refine halt ?_))
 by_cases c4 : t360 = true
 ·subst c4
  rw [if_pos rfl] at H
  obtain ⟨t361, A5, H⟩ := ob H
  (try dsimp only at H)
  refine Aside0.mk ?_
  try go_wp2_with (((with_reducible refine gc 47 ?_); refine gl (some 7) Tryz.func47 #[.agg #[.int .i64 a0_0, .slice A0_1 l0_1.length c0_1]] ?_; (with_reducible refine (spec_pzGood.calls k a0_0 _ _ l0_1 true _ ?_ ?_ A3.out).mono ?_); exact cb HR0_1; exact HC0_1.out; rintro e w12 ⟨rfl, hb⟩; refine ⟨_, rfl, ?_⟩; replace BK358 := nk BK358 hb; replace BK359 := nk BK359 hb; replace HB := bs hb; (try clear hb); have hz13 := z2 BK358; refine halt ?_))
  by_cases c6 : t361 = true
  ·subst c6
   rw [if_pos rfl] at H
   obtain ⟨t362, A7, H⟩ := ob H
   (try dsimp only at H)
   simp only [Option.some.injEq, Prod.mk.injEq] at H
   obtain ⟨rfl, rfl, rfl⟩ := H
   refine Aside0.mk ?_
   try go_wp2_with ((go_at_call 32; (with_reducible refine (spec_l1In.calls a1 0 (wrap64 ((l0_1.length : Int) - 1)) true _ A5.out).mono ?_); rintro e w' ⟨rfl, ⟨nd, rfl⟩⟩; (try (rw [drewN_self w12]; generalize hq_ : World.drewN w12 _ = w12; have n0_ : Aside0 (w12.heap[gb358]? = some (.cells #[.int .i64 a0_0, .slice A0_1 l0_1.length c0_1] 24 (0, 0))) := ⟨by rw [← hq_]; exact (pk BK358)⟩; have n1_ : Aside0 (w12.heap[gb359]? = some (.cells #[.int .i64 0, .slice none 0 0] 24 (0, 0))) := ⟨by rw [← hq_]; exact (pk BK359)⟩; have n2_ : Aside0 (Below w.heap.size w w12) := ⟨by rw [← hq_]; exact bw⟩; clear BK358 BK359 HB hq_; have BK358 := n0_; have BK359 := n1_; have HB := n2_; clear n0_ n1_ n2_))))
   replace BK358 := Aside0.mk (blk_drew BK358.out)
   replace BK359 := Aside0.mk (blk_drew BK359.out)
   replace HB := Aside0.mk (below_drew1 HB.out)
   refine start_ (n := 9) (S := fun w' => w'.cell? ⟨gb358, 0, none⟩ = some (.int .i64 a0_0) ∧ w'.cell? ⟨gb358, 1, none⟩ = some (.slice A0_1 l0_1.length c0_1)) (ds := []) (tb 9 0) (by kernel_rfl) rfl rfl ⟨ec BK358, ec BK358⟩ (fun hHeld => ?_); refine with_tabW spec_DropClue.tab3 spec_DropClue.bits3 (fun HT_ HW_ => ?_)
   generalize w12.drew = w14 at BK358 BK359 HB hHeld ⊢
   refine pu 0 (some 19) (tb 9 1) ?_
   refine pu 2 (some 21) (tb 9 5) ?_
   refine pu 4 (some 23) (tb 9 21) ?_
   refine tk 1 (some 20) (tb 9 23) hHeld ?_
   refine tk 3 (some 22) (tb 9 31) hHeld ?_
   refine one_ (i := 5) (N := some 24) (tb 9 63) rfl rfl (one_of HT_.out (by kernel_rfl)) (by decide) (fun K hK => ?_)
   refine go1 Tryz.func49 #[.slice A0_1 l0_1.length c0_1, .int .i64 a1] ?_
   with_reducible refine (spec_pzWithout.calls _ _ l0_1 a1 t362 _ ?side1 ?side2 A7.out).mono ?_
   (case side1 => exact cb HR0_1)
   (case side2 => exact HC0_1.out)
   rintro e w15 ⟨v363, rfl, ho0, hb⟩
   refine ⟨_, rfl, ?_⟩
   have HO364 := Aside0.mk (Kd.R_lower ho0 (below_size bw))
   replace BK358 := nk BK358 hb
   replace BK359 := nk BK359 hb
   replace HB := bs hb
   (try clear hb)
   (try clear ho0)
   obtain ⟨Ao16, co16, eo16⟩ := Kd.R_slice HO364.out
   (first | subst eo16 | (injection eo16 with f1_ f2_ f3_; have f4_ := f1_.symm; have f5_ := f3_.symm; clear f1_ f2_ f3_; subst f4_; subst f5_))
   refine hK.out _ _ ⟨ec BK358, ec BK358⟩ (fun hHeld => ?_)
   clear hK K
   refine nm (some 24) ?_
   refine pu 6 (some 25) (tb 9 127) ?_
   refine one_ (i := 7) (N := none) (tb 9 255) rfl rfl (one_of HT_.out (by kernel_rfl)) (by decide) (fun K hK => ?_)
   have hs17 : w15.cell? ⟨gb359, 0, none⟩ = some (.int .i64 0) := ec BK359
   have hfs17 := blk_frozen BK359.out 0
   have hns17_0 := NB358_359.out
   have hms17_0 := NB359_358.out
   have hs18 : w15.cell? ⟨gb359, 1, none⟩ = some (.slice none 0 0) := ec BK359
   have hfs18 := blk_frozen BK359.out 1
   have hns18_0 := NB358_359.out
   have hms18_0 := NB359_358.out
   refine skip_ (w1 := ?_) (by rfl) rfl ?_ ?_
   rotate_left
   ·go_simp
    rfl
   refine hK.out _ _ ⟨((cell_far (p := ⟨gb359, _, none⟩) NB358_359.out _).trans (((cell_far (p := ⟨gb359, _, none⟩) NB358_359.out _).trans (hHeld.1)))), ((cell_far (p := ⟨gb359, _, none⟩) NB358_359.out _).trans (((cell_far (p := ⟨gb359, _, none⟩) NB358_359.out _).trans (hHeld.2))))⟩ (fun hHeld => ?_)
   clear hK K
   refine pu 8 (some 5) (tb 9 511) ?_
   refine done_ (done_of HT_.out (by kernel_rfl)) ?_
   try go_wp2
   refine bodyPost_ret (results_ct rfl _ _ gb359 24 #[.int .i64 a0_0, .slice Ao16 t362.length co16] (0, 0) _ rfl (pz BK359) Tryz.underlying24 rfl (by kernel_rfl)) rfl ?_
   exact ⟨_, rs, by (with_reducible repeat (first | apply Kd.R_alloc | apply Kd.R_drewN | apply Kd.R_drew)); exact Kd.R_mono (Kd.R_far (p := ⟨gb359, 1, none⟩) (Kd.R_far (p := ⟨gb359, 0, none⟩) (Kd.R_types HO364.out BK359.out (by decide)) (fun _ hk => hk.2) (.int .i64 a0_0)) (fun _ hk => hk.2) (.slice Ao16 t362.length co16)) (fun _ hk => trivial), bw⟩
  replace c6 := Bool.eq_false_iff.mpr c6
  subst c6
  rw [if_neg (show ¬ (false = true) by decide)] at H
  simp only [Option.some.injEq, Prod.mk.injEq] at H
  obtain ⟨rfl, rfl, rfl⟩ := H
  refine Aside0.mk ?_
  try go_wp2_with ((go_at_call 32; (with_reducible refine (spec_l1In.calls a1 0 (wrap64 ((l0_1.length : Int) - 1)) false _ A5.out).mono ?_); rintro e w' ⟨rfl, ⟨nd, rfl⟩⟩; (try (rw [drewN_self w12]; generalize hq_ : World.drewN w12 _ = w12; have n0_ : Aside0 (w12.heap[gb359]? = some (.cells #[.int .i64 0, .slice none 0 0] 24 (0, 0))) := ⟨by rw [← hq_]; exact (pk BK359)⟩; have n1_ : Aside0 (Below w.heap.size w w12) := ⟨by rw [← hq_]; exact bw⟩; clear BK359 HB hq_; have BK359 := n0_; have HB := n1_; clear n0_ n1_)); have hz25 := z2 BK359))
  refine bodyPost_ret (results_ct rfl _ _ gb359 24 #[.int .i64 0, .slice none 0 0] (0, 0) _ rfl (pz BK359) Tryz.underlying24 rfl (by kernel_rfl)) rfl ?_
  exact ⟨_, rs, by first | exact Kd.R_nil _ _ _ _ _ | exact Kd.N_nil _ _ _ _ _ | exact Kd.V_nil _ _ _ _ _ | exact Kd.Q_nil _ _ _ _ _ | exact Kd.S_nil _ _ _ _ _, bw⟩
 replace c4 := Bool.eq_false_iff.mpr c4
 subst c4
 rw [if_neg (show ¬ (false = true) by decide)] at H
 simp only [Option.some.injEq, Prod.mk.injEq] at H
 obtain ⟨rfl, rfl, rfl⟩ := H
 refine Aside0.mk ?_
 try go_wp2_with (((with_reducible refine gc 47 ?_); refine gl (some 7) Tryz.func47 #[.agg #[.int .i64 a0_0, .slice A0_1 l0_1.length c0_1]] ?_; (with_reducible refine (spec_pzGood.calls k a0_0 _ _ l0_1 false _ ?_ ?_ A3.out).mono ?_); exact cb HR0_1; exact HC0_1.out; rintro e w30 ⟨rfl, hb⟩; refine ⟨_, rfl, ?_⟩; replace BK359 := nk BK359 hb; replace HB := bs hb; (try clear hb); have hz31 := z2 BK359))
 refine bodyPost_ret (results_ct rfl _ _ gb359 24 #[.int .i64 0, .slice none 0 0] (0, 0) _ rfl (pz BK359) Tryz.underlying24 rfl (by kernel_rfl)) rfl ?_
 exact ⟨_, rs, by first | exact Kd.R_nil _ _ _ _ _ | exact Kd.N_nil _ _ _ _ _ | exact Kd.V_nil _ _ _ _ _ | exact Kd.Q_nil _ _ _ _ _ | exact Kd.S_nil _ _ _ _ _, bw⟩

/-! ### spec_DoesFit: function 23 -/
def spec_DoesFit.f (k : Nat) (a0_0 : Int) (a0_1 : Int) (a0_2 : Int) (a0_3 : Int) (a1 : ByteArray) : Option (Bool × Bool) := (spec_pzHidden.f k a1).bind fun t366 => (if t366 = true then ((spec_pzClue.f (a1.size : Int) a0_0 a0_1 a0_2 a0_3).bind fun t367 => (if t367 = true then ((spec_pzFits.f k a0_0 a0_1 a0_2 a0_3 a1).bind fun t368 => (some (t368, true))) else (some (false, false)))) else (some (false, false)))
theorem spec_DoesFit.mono : ∀ a0 a1 a2 a3 a4 k, LeO (spec_DoesFit.f k a0 a1 a2 a3 a4) (spec_DoesFit.f (k + 1) a0 a1 a2 a3 a4) := by
  intro a0 a1 a2 a3 a4 k
  unfold spec_DoesFit.f
  repeat' first
      | (with_reducible exact spec_pzFits.mono _ _ _ _ _ _)
      | (with_reducible exact spec_pzHidden.mono _ _)
      | (with_reducible exact LeO.refl _)
      | (with_reducible exact LeO.none _)
      | (with_reducible refine LeO.ite ?_ ?_)
      | (with_reducible refine LeO.bind ?_ (fun _ => ?_))
      | exact spec_pzFits.mono _ _ _ _ _ _
      | exact spec_pzHidden.mono _ _
      | exact LeO.none _
      | refine LeO.ite ?_ ?_
      | refine LeO.bind ?_ (fun _ => ?_)
set_option maxHeartbeats 8000000 in
set_option maxRecDepth 100000 in
theorem spec_DoesFit.calls (k : Nat) (a0_0 : Int) (a0_1 : Int) (a0_2 : Int) (a0_3 : Int) (a1 : ByteArray) (r1 : Bool) (r2 : Bool) (w : World) (h : spec_DoesFit.f k a0_0 a0_1 a0_2 a0_3 a1 = some (r1, r2)) :
  Calls Tryz.prog 23 #[.agg #[.int .i64 a0_0, .int .i64 a0_1, .int .i64 a0_2, .int .i64 a0_3], .string a1] w fun e w' => e = .returned (.tuple #[.bool r1, .bool r2]) ∧ Below w.heap.size w w' := by
 have hu26 := Tryz.underlying26
 have HB := Aside0.mk (Below.refl w.heap.size w)
 unfold spec_DoesFit.f at h
 have H := h
 clear h
 obtain ⟨t366, A3, H⟩ := ob H
 (try dsimp only at H)
 go_enter Tryz.func23, Tryz.ntmps23
 go_wp2_with (((with_reducible refine gd 2 ?_); (try (refine gate_guard (by rfl) ?_; dsimp only)); refine bx 2 26 #[.int .i64 a0_0, .int .i64 a0_1, .int .i64 a0_2, .int .i64 a0_3] ?_; intro gb365 hg w8 hbox hb; have BK365 := hbox; have GW365 := gs hg; have GE365 := gs hg; replace HB := bs hb; clear hb hbox hg; refine halt ?_))
 by_cases c4 : t366 = true
 ·subst c4
  rw [if_pos rfl] at H
  obtain ⟨t367, A5, H⟩ := ob H
  (try dsimp only at H)
  refine Aside0.mk ?_
  try go_wp2_with (((with_reducible refine gc 31 ?_); refine gl (some 7) Tryz.func31 #[.string a1] ?_; (with_reducible refine (spec_pzHidden.calls k a1 true _ A3.out).mono ?_); rintro e w' ⟨rfl, ⟨nd, rfl⟩⟩; refine ⟨_, rfl, ?_⟩; have hz9 := z4 BK365; refine halt ?_))
  by_cases c6 : t367 = true
  ·subst c6
   rw [if_pos rfl] at H
   obtain ⟨t368, A7, H⟩ := ob H
   (try dsimp only at H)
   simp only [Option.some.injEq, Prod.mk.injEq] at H
   obtain ⟨rfl, rfl⟩ := H
   refine Aside0.mk ?_
   try go_wp2_with (first | (go_at_call 50; (with_reducible refine (spec_pzClue.calls (a1.size : Int) a0_0 a0_1 a0_2 a0_3 true _ A5.out).mono ?_); rintro e w10 ⟨rfl, hb⟩; replace BK365 := nk BK365 hb; replace HB := bs hb; (try clear hb); obtain ⟨hcz11_0, hcz11_1, hcz11_2, hcz11_3, hfz11_0, hfz11_1, hfz11_2, hfz11_3⟩ := z4 BK365) | ((with_reducible refine gc 51 ?_); refine gl (some 18) Tryz.func51 #[.agg #[.int .i64 a0_0, .int .i64 a0_1, .int .i64 a0_2, .int .i64 a0_3], .string a1] ?_; (with_reducible refine (spec_pzFits.calls k a0_0 a0_1 a0_2 a0_3 a1 t368 _ A7.out).mono ?_); rintro e w12 ⟨rfl, hb⟩; refine ⟨_, rfl, ?_⟩; replace HB := bs hb; (try clear hb)))
   go_ret2
   exact ⟨rs, bw⟩
  replace c6 := Bool.eq_false_iff.mpr c6
  subst c6
  rw [if_neg (show ¬ (false = true) by decide)] at H
  simp only [Option.some.injEq, Prod.mk.injEq] at H
  obtain ⟨rfl, rfl⟩ := H
  refine Aside0.mk ?_
  try go_wp2_with ((go_at_call 50; (with_reducible refine (spec_pzClue.calls (a1.size : Int) a0_0 a0_1 a0_2 a0_3 false _ A5.out).mono ?_); rintro e w15 ⟨rfl, hb⟩; replace HB := bs hb; (try clear hb)))
  go_ret2
  exact ⟨rs, bw⟩
 replace c4 := Bool.eq_false_iff.mpr c4
 subst c4
 rw [if_neg (show ¬ (false = true) by decide)] at H
 simp only [Option.some.injEq, Prod.mk.injEq] at H
 obtain ⟨rfl, rfl⟩ := H
 refine Aside0.mk ?_
 try go_wp2_with (((with_reducible refine gc 31 ?_); refine gl (some 7) Tryz.func31 #[.string a1] ?_; (with_reducible refine (spec_pzHidden.calls k a1 false _ A3.out).mono ?_); rintro e w' ⟨rfl, ⟨nd, rfl⟩⟩; refine ⟨_, rfl, ?_⟩))
 go_ret2
 exact ⟨rs, bw⟩

/-! ### impl_IsClue: function 24 -/
def impl_IsClue.f (a0 : Int) (a1_0 : Int) (a1_1 : Int) (a1_2 : Int) (a1_3 : Int) : Option (Bool) := (impl_isClue.f a0 a1_0 a1_1 a1_2 a1_3).bind fun t370 => (some t370)
set_option maxHeartbeats 8000000 in
set_option maxRecDepth 100000 in
theorem impl_IsClue.calls (a0 : Int) (a1_0 : Int) (a1_1 : Int) (a1_2 : Int) (a1_3 : Int) (r : Bool) (w : World) (h : impl_IsClue.f a0 a1_0 a1_1 a1_2 a1_3 = some r) :
  Calls Tryz.prog 24 #[.int .i64 a0, .agg #[.int .i64 a1_0, .int .i64 a1_1, .int .i64 a1_2, .int .i64 a1_3]] w fun e w' => e = .returned (.bool r) ∧ Below w.heap.size w w' := by
 have hu26 := Tryz.underlying26
 have HB := Aside0.mk (Below.refl w.heap.size w)
 unfold impl_IsClue.f at h
 have H := h
 clear h
 obtain ⟨t370, A3, H⟩ := ob H
 (try dsimp only at H)
 obtain rfl := Option.some.inj H
 go_enter Tryz.func24, Tryz.ntmps24
 go_wp2_with (first | ((with_reducible refine gd 3 ?_); refine bx 3 26 #[.int .i64 a1_0, .int .i64 a1_1, .int .i64 a1_2, .int .i64 a1_3] ?_; intro gb369 hg w4 hbox hb; have BK369 := hbox; have GW369 := gs hg; have GE369 := gs hg; replace HB := bs hb; clear hb hbox hg; have hz5 := z4 BK369) | ((with_reducible refine gc 36 ?_); refine gl (some 7) Tryz.func36 #[.int .i64 a0, .agg #[.int .i64 a1_0, .int .i64 a1_1, .int .i64 a1_2, .int .i64 a1_3]] ?_; (with_reducible refine (impl_isClue.calls a0 a1_0 a1_1 a1_2 a1_3 t370 _ A3.out).mono ?_); rintro e w6 ⟨rfl, hb⟩; refine ⟨_, rfl, ?_⟩; replace HB := bs hb; (try clear hb)))
 go_ret
 exact ⟨rs, bw⟩

/-! ### spec_IsClue: function 25 -/
def spec_IsClue.f (a0 : Int) (a1_0 : Int) (a1_1 : Int) (a1_2 : Int) (a1_3 : Int) : Option (Bool) := (spec_pzSoldiers.f a0).bind fun t372 => (if t372 = true then ((spec_pzClue.f a0 a1_0 a1_1 a1_2 a1_3).bind fun t373 => (some t373)) else (some false))
set_option maxHeartbeats 8000000 in
set_option maxRecDepth 100000 in
theorem spec_IsClue.calls (a0 : Int) (a1_0 : Int) (a1_1 : Int) (a1_2 : Int) (a1_3 : Int) (r : Bool) (w : World) (h : spec_IsClue.f a0 a1_0 a1_1 a1_2 a1_3 = some r) :
  Calls Tryz.prog 25 #[.int .i64 a0, .agg #[.int .i64 a1_0, .int .i64 a1_1, .int .i64 a1_2, .int .i64 a1_3]] w fun e w' => e = .returned (.bool r) ∧ Below w.heap.size w w' := by
 have hu26 := Tryz.underlying26
 have HB := Aside0.mk (Below.refl w.heap.size w)
 unfold spec_IsClue.f at h
 have H := h
 clear h
 obtain ⟨t372, A3, H⟩ := ob H
 (try dsimp only at H)
 by_cases c4 : t372 = true
 ·subst c4
  rw [if_pos rfl] at H
  obtain ⟨t373, A5, H⟩ := ob H
  (try dsimp only at H)
  obtain rfl := Option.some.inj H
  go_enter Tryz.func25, Tryz.ntmps25
  go_wp2_with (first | ((with_reducible refine gd 3 ?_); refine bx 3 26 #[.int .i64 a1_0, .int .i64 a1_1, .int .i64 a1_2, .int .i64 a1_3] ?_; intro gb371 hg w6 hbox hb; have BK371 := hbox; have GW371 := gs hg; have GE371 := gs hg; replace HB := bs hb; clear hb hbox hg) | ((with_reducible refine gc 52 ?_); refine gl (some 6) Tryz.func52 #[.int .i64 a0] ?_; (with_reducible refine (spec_pzSoldiers.calls a0 true _ A3.out).mono ?_); rintro e w' ⟨rfl, ⟨nd, rfl⟩⟩; refine ⟨_, rfl, ?_⟩; have hz7 := z4 BK371) | (go_at_call 50; (with_reducible refine (spec_pzClue.calls a0 a1_0 a1_1 a1_2 a1_3 t373 _ A5.out).mono ?_); rintro e w8 ⟨rfl, hb⟩; replace HB := bs hb; (try clear hb)))
  go_ret
  exact ⟨rs, bw⟩
 replace c4 := Bool.eq_false_iff.mpr c4
 subst c4
 rw [if_neg (show ¬ (false = true) by decide)] at H
 obtain rfl := Option.some.inj H
 go_enter Tryz.func25, Tryz.ntmps25
 go_wp2_with (first | ((with_reducible refine gd 3 ?_); refine bx 3 26 #[.int .i64 a1_0, .int .i64 a1_1, .int .i64 a1_2, .int .i64 a1_3] ?_; intro gb371 hg w9 hbox hb; have BK371 := hbox; have GW371 := gs hg; have GE371 := gs hg; replace HB := bs hb; clear hb hbox hg) | ((with_reducible refine gc 52 ?_); refine gl (some 6) Tryz.func52 #[.int .i64 a0] ?_; (with_reducible refine (spec_pzSoldiers.calls a0 false _ A3.out).mono ?_); rintro e w' ⟨rfl, ⟨nd, rfl⟩⟩; refine ⟨_, rfl, ?_⟩))
 go_ret
 exact ⟨rs, bw⟩

end Go.Proofs.YtonhhfhlhlifcaaGreatDoor.PFnRowsHiddenOfAll
