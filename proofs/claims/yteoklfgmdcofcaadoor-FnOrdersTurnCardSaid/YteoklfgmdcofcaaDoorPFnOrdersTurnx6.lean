-- Laid by xprint, a program of this session that runs over the kit's print.
import Derived.Test.YteoklfgmdcofcaaDoorPFnOrdersTurnx0
import Derived.Test.YteoklfgmdcofcaaDoorPFnOrdersTurnx1
import Derived.Test.YteoklfgmdcofcaaDoorPFnOrdersTurnx2
import Derived.Test.YteoklfgmdcofcaaDoorPFnOrdersTurnx4
import Derived.Test.YteoklfgmdcofcaaDoorPFnOrdersTurnx5
namespace Go.Proofs.YteoklfgmdcofcaaDoor.PFnOrdersTurn
open Go.RowKit Go.Proofs.YteoklfgmdcofcaaDoorW.PrintWords Go.Proofs.YteoklfgmdcofcaaDoorW.PrintLast Go.Proofs.YteoklfgmdcofcaaDoorW.PrintMore Go.Proofs.YteoklfgmdcofcaaDoor.Sq
attribute [local go_sem] max2_int min2_int max_two min_two max_three min_three max_four min_four   -- for this text's walks alone
set_option linter.unusedVariables false
set_option linter.unusedSimpArgs false

/-! ### impl_PlayRuns: function 16 -/
mutual
def impl_PlayRuns.j0 : Nat → ByteArray → List (List Int) → Bool → Option (ByteArray × Bool)
  | 0, _, _, _ => none
  | k + 1, x0, x1, x15 => if x15 = true then (some ((⟨#[]⟩ : ByteArray), false)) else (impl_PlayRuns.l0 k x0 x1 (x1.length : Int) 0)
def impl_PlayRuns.l0 : Nat → ByteArray → List (List Int) → Int → Int → Option (ByteArray × Bool)
  | 0, _, _, _, _ => none
  | k + 1, x0, x16, x17, x18 => if x18 < x17 then (if 0 ≤ x18 then (if x18 < (x16.length : Int) then (if ((rd_L3 x16 x18).length : Int) = 2 then (if 0 < ((rd_L3 x16 x18).length : Int) then (if 1 < ((rd_L3 x16 x18).length : Int) then ((impl_isRun.f x0 (rd (rd_L3 x16 x18) 0) (rd (rd_L3 x16 x18) 1)).bind fun t279 => (if t279 = true then ((impl_turnAll.f x0 (rd (rd_L3 x16 x18) 0) (rd (rd_L3 x16 x18) 1)).bind fun t282 => (impl_PlayRuns.l0 k t282 x16 x17 (wrap64 (x18 + 1)))) else (some ((⟨#[]⟩ : ByteArray), false)))) else (none)) else (none)) else (some ((⟨#[]⟩ : ByteArray), false))) else (none)) else (none)) else (some (x0, true))
end
def impl_PlayRuns.f (k : Nat) (a0 : ByteArray) (l1 : List (List Int)) : Option (ByteArray × Bool) := (impl_isOrdered.f a0).bind fun t275 => (if t275 = true then (impl_PlayRuns.j0 k a0 l1 (decide ((l1.length : Int) > 100))) else (impl_PlayRuns.j0 k a0 l1 true))
theorem impl_PlayRuns.mono_l : ∀ k, (∀ y0 y1 y2, LeO (impl_PlayRuns.j0 k y0 y1 y2) (impl_PlayRuns.j0 (k + 1) y0 y1 y2)) ∧ (∀ y0 y1 y2 y3, LeO (impl_PlayRuns.l0 k y0 y1 y2 y3) (impl_PlayRuns.l0 (k + 1) y0 y1 y2 y3))
  | 0 => ⟨fun _ _ _ r h => by simp [impl_PlayRuns.j0] at h, fun _ _ _ _ r h => by simp [impl_PlayRuns.l0] at h⟩
  | k + 1 => by
    obtain ⟨ih0, ih1⟩ := impl_PlayRuns.mono_l k
    refine ⟨?q0, ?q1⟩
    case' q0 => (intros; unfold impl_PlayRuns.j0)
    case' q1 => (intros; unfold impl_PlayRuns.l0)
    all_goals repeat' first
     | (with_reducible exact ih0 _ _ _)
     | (with_reducible exact ih1 _ _ _ _)
     | (with_reducible exact LeO.refl _)
     | (with_reducible exact LeO.none _)
     | (with_reducible refine LeO.ite ?_ ?_)
     | (with_reducible refine LeO.bind ?_ (fun _ => ?_))
     | exact ih0 _ _ _
     | exact ih1 _ _ _ _
     | exact LeO.none _
     | refine LeO.ite ?_ ?_
     | refine LeO.bind ?_ (fun _ => ?_)
theorem impl_PlayRuns.mono : ∀ a0 a1 k, LeO (impl_PlayRuns.f k a0 a1) (impl_PlayRuns.f (k + 1) a0 a1) := by
  intro a0 a1 k
  obtain ⟨ih0, ih1⟩ := impl_PlayRuns.mono_l k
  unfold impl_PlayRuns.f
  repeat' first
      | (with_reducible exact ih0 _ _ _)
      | (with_reducible exact ih1 _ _ _ _)
      | (with_reducible exact LeO.refl _)
      | (with_reducible exact LeO.none _)
      | (with_reducible refine LeO.ite ?_ ?_)
      | (with_reducible refine LeO.bind ?_ (fun _ => ?_))
      | exact ih0 _ _ _
      | exact ih1 _ _ _ _
      | exact LeO.none _
      | refine LeO.ite ?_ ?_
      | refine LeO.bind ?_ (fun _ => ?_)
def impl_PlayRuns.T6 : Bool × List (List Nat × List Nat) := (true, [([], []), ([0], [0]), ([1], [1]), ([2], [2]), ([3], [3]), ([3], [3]), ([5, 3], [3, 5]), ([6, 3], [3, 6]), ([3], [3]), ([8, 3], [3, 8]), ([9, 3], [3, 9]), ([4, 7, 10, 3, 3], [3, 4, 7, 10]), ([11, 3], [3, 11]), ([3, 12], [3, 12])])
def impl_PlayRuns.B6 : List Nat := [0, 1, 3, 7, 15, 15, 47, 111, 15, 271, 783, 2047, 4095, 8191]
theorem impl_PlayRuns.tab6 : rtab .any (opsOf Tryd.f16 6) = impl_PlayRuns.T6 := by kernel_rfl
theorem impl_PlayRuns.bits6 : waitsOk impl_PlayRuns.T6.2 impl_PlayRuns.B6 = true := by kernel_rfl
def impl_PlayRuns.T8 : Bool × List (List Nat × List Nat) := (true, [([], []), ([], []), ([1], [1]), ([2], [2]), ([], []), ([4], [4]), ([5], [5]), ([0, 3, 6], [0, 3, 6]), ([7, 7, 0, 1, 2, 3, 4, 5, 6, 7], [0, 7])])
def impl_PlayRuns.B8 : List Nat := [0, 0, 2, 6, 0, 16, 48, 127, 255]
theorem impl_PlayRuns.tab8 : rtab .any (opsOf Tryd.f16 8) = impl_PlayRuns.T8 := by kernel_rfl
theorem impl_PlayRuns.bits8 : waitsOk impl_PlayRuns.T8.2 impl_PlayRuns.B8 = true := by kernel_rfl
set_option maxHeartbeats 8000000 in
set_option maxRecDepth 100000 in
theorem impl_PlayRuns.calls (k : Nat) (a0 : ByteArray) (A1 : Option Addr) (c1 : Nat) (l1 : List (List Int)) (r1 : ByteArray) (r2 : Bool) (w : World) (hm : Dr.Tab w) (hr1 : Kd.C (Kd.slice 3 (Kd.int .i64)) w A1 l1.length l1) (hc1 : l1.length ≤ c1) (h : impl_PlayRuns.f k a0 l1 = some (r1, r2)) :
  Calls Tryd.prog 16 #[.string a0, .slice A1 l1.length c1] w fun e w' => e = .returned (.tuple #[.string r1, .bool r2]) ∧ Below w.heap.size w w' := by
 have HR1 := Aside0.mk hr1
 have HC1 := Aside0.mk hc1
 clear hr1 hc1
 have HB := Aside0.mk (Below.refl w.heap.size w)
 have HMM := Aside0.mk hm
 clear hm
 unfold impl_PlayRuns.f at h
 have H := h
 clear h
 have HC3 := Aside0.mk H
 clear H
 go_enter Tryd.func16, Tryd.ntmps16
 go_upto_region 1 with (fail)
 go_cut [15] (fun v15 wc => ∃ (kq : Nat) (x15_2 : Bool), v15 = .bool x15_2 ∧ Aside0 (impl_PlayRuns.j0 kq a0 l1 x15_2 = some (r1, r2)) ∧ Aside0 (kq ≤ k) ∧ Aside0 (Below w.heap.size w wc))
 case first =>
  have H := HC3.out
  clear HC3
  replace H := Option.bind_eq_some_iff.mp H
  obtain ⟨t275, A40, H⟩ := H
  (try dsimp only at H)
  have A4 := Aside0.mk A40
  clear A40
  by_cases c5 : t275 = true
  ·subst c5
   rw [if_pos rfl] at H
   have H' := Aside0.mk H
   clear H
   go_wp2_with (first | ((with_reducible refine gate_callee (f := 38) rfl ?_); refine gl (some 9) Tryd.func38 #[.string a0] ?_; (with_reducible refine (impl_isOrdered.calls a0 true _ A4.out).mono ?_); rintro e w6 ⟨rfl, hb⟩; refine ⟨_, rfl, ?_⟩; replace HB := bs hb; (try clear hb)))
   go_meet
   case rel => exact ⟨_, (decide ((l1.length : Int) > 100)), (rs), H', ⟨by first | omega | exact Nat.le_refl _⟩, ⟨bw⟩⟩
  ·replace c5 := Bool.eq_false_iff.mpr c5
   subst c5
   rw [if_neg (show ¬ (false = true) by decide)] at H
   have H' := Aside0.mk H
   clear H
   go_wp2_with (first | ((with_reducible refine gate_callee (f := 38) rfl ?_); refine gl (some 9) Tryd.func38 #[.string a0] ?_; (with_reducible refine (impl_isOrdered.calls a0 false _ A4.out).mono ?_); rintro e w7 ⟨rfl, hb⟩; refine ⟨_, rfl, ?_⟩; replace HB := bs hb; (try clear hb)))
   go_meet
   case rel => exact ⟨_, (true), (rs), H', ⟨by first | omega | exact Nat.le_refl _⟩, ⟨bw⟩⟩
 case rest =>
  clear HC3
  try clear c1
  try clear p2
  try clear c3
  try clear c5
  obtain ⟨kq, x15_2, rfl, HA, HJ2, HB⟩ := hcut
  cases kq with
  | zero => exact absurd HA.out (by simp [impl_PlayRuns.j0])
  | succ kj2 =>
   have H := HA.out
   clear HA
   simp only [impl_PlayRuns.j0] at H
   by_cases c8 : x15_2 = true
   ·subst c8
    rw [if_pos rfl] at H
    simp only [Option.some.injEq, Prod.mk.injEq] at H
    obtain ⟨rfl, rfl⟩ := H
    go_wp2
    go_ret2
    exact ⟨rs, bw⟩
   ·replace c8 := Bool.eq_false_iff.mpr c8
    subst c8
    rw [if_neg (show ¬ (false = true) by decide)] at H
    have H' := Aside0.mk H
    clear H
    go_wp2
    go_loopg [0, 18] kj2 (fun kq v0 v18 w' => ∃ (x0_2 : ByteArray) (x18_2 : Int), v0 = .string x0_2 ∧ v18 = .int .i64 x18_2 ∧ Aside0 (impl_PlayRuns.l0 kq x0_2 l1 (l1.length : Int) x18_2 = some (r1, r2)) ∧ Aside0 (kq ≤ kj2) ∧ Aside0 (Below w.heap.size w w'))
    case atStart => exact ⟨(a0), (0), (rs), (rs), H', ⟨Nat.le_refl _⟩, ⟨bw⟩⟩
    case round =>
     clear H'
     try clear c1
     try clear p2
     try clear c3
     try clear c5
     try clear c8
     try clear p2
     obtain ⟨x0_2, x18_2, rfl, rfl, HA, HK2, HB⟩ := hrel
     cases gk with
     | zero => exact absurd HA.out (by simp [impl_PlayRuns.l0])
     | succ k2 =>
      have H := HA.out
      clear HA
      simp only [impl_PlayRuns.l0] at H
      by_cases c9 : x18_2 < (l1.length : Int)
      ·rw [if_pos c9] at H
       have c9b0 : decide (x18_2 < (l1.length : Int)) = true := decide_eq_true c9
       clear c9
       by_cases c10 : 0 ≤ x18_2
       ·rw [if_pos c10] at H
        have c10b0 : decide (0 ≤ x18_2) = true := decide_eq_true c10
        clear c10
        by_cases c11 : x18_2 < (l1.length : Int)
        ·rw [if_pos c11] at H
         have c11b0 : decide (x18_2 < (l1.length : Int)) = true := decide_eq_true c11
         clear c11
         by_cases c12 : ((rd_L3 l1 x18_2).length : Int) = 2
         ·rw [if_pos c12] at H
          have c12b0 : (((rd_L3 l1 x18_2).length : Int) == 2) = true := beq_iff_eq.mpr c12
          have c12b1 : (((rd_L3 l1 x18_2).length : Int) != 2) = false := bne_eq_false_iff_eq.mpr c12
          clear c12
          by_cases c13 : 0 < ((rd_L3 l1 x18_2).length : Int)
          ·rw [if_pos c13] at H
           have c13b0 : decide (0 < ((rd_L3 l1 x18_2).length : Int)) = true := decide_eq_true c13
           have c13b1 : decide (0 < (rd_L3 l1 x18_2).length) = true := decide_eq_true (by omega)
           clear c13
           by_cases c14 : 1 < ((rd_L3 l1 x18_2).length : Int)
           ·rw [if_pos c14] at H
            have c14b0 : decide (1 < ((rd_L3 l1 x18_2).length : Int)) = true := decide_eq_true c14
            have c14b1 : decide (1 < (rd_L3 l1 x18_2).length) = true := decide_eq_true (by omega)
            clear c14
            replace H := Option.bind_eq_some_iff.mp H
            obtain ⟨t279, A150, H⟩ := H
            (try dsimp only at H)
            have A15 := Aside0.mk A150
            clear A150
            by_cases c16 : t279 = true
            ·subst c16
             rw [if_pos rfl] at H
             replace H := Option.bind_eq_some_iff.mp H
             obtain ⟨t282, A170, H⟩ := H
             (try dsimp only at H)
             have A17 := Aside0.mk A170
             clear A170
             have H' := Aside0.mk H
             clear H
             have p276 : 0 ≤ (x18_2 : Int) := of_decide_eq_true asm
             have q276 : x18_2 < (l1.length : Int) := of_decide_eq_true asm
             obtain ⟨ad276, A276_0, c276_0, e276, hx276_0, hl276_0, hi276_0⟩ := at_L3 HR1.out x18_2 p276 q276
             cases e276
             replace hx276_0 := (HB.out.cell (World.block_lt_of_cell? w _ hx276_0)).trans hx276_0
             have HR276_0 := Aside0.mk hi276_0
             have HC276_0 := Aside0.mk hl276_0
             clear hi276_0 hl276_0
             replace p276 := eq_true p276
             replace q276 := eq_true q276
             try go_wp2
             replace HB := Aside0.mk (below_drew1 HB.out)
             have p277 : 0 ≤ (0 : Int) := (by omega)
             have q277 : 0 < ((rd_L3 l1 x18_2).length : Int) := of_decide_eq_true asm
             obtain ⟨ad277, e277, hx277_0⟩ := Kd.at_int HR276_0.out 0 p277 q277
             have hw277_0 := hx277_0
             (try rw [show ((0 : Int)).toNat = 0 from rfl] at hw277_0)
             (try rw [show 0 * 1 = 0 from rfl] at hw277_0)
             (try rw [Addr.add_zero'] at hw277_0)
             cases e277
             have qi277 : (0 < (rd_L3 l1 x18_2).length) = True := eq_true (by omega)
             (try rw [show ((0 : Int)).toNat = 0 from rfl] at hx277_0)
             (try rw [Addr.add_zero'] at hx277_0)
             replace hx277_0 := (HB.out.cell (World.block_lt_of_cell? w _ hx277_0)).trans hx277_0
             replace p277 := eq_true p277
             replace q277 := eq_true q277
             have p278 : 0 ≤ (1 : Int) := (by omega)
             have q278 : 1 < ((rd_L3 l1 x18_2).length : Int) := of_decide_eq_true asm
             obtain ⟨ad278, e278, hx278_0⟩ := Kd.at_int HR276_0.out 1 p278 q278
             have hw278_0 := hx278_0
             (try rw [show ((1 : Int)).toNat = 1 from rfl] at hw278_0)
             (try rw [show 1 * 1 = 1 from rfl] at hw278_0)
             (try simp only [Nat.reduceMul, Nat.reduceEqDiff, Go.Addr.add, ↓reduceIte] at hw278_0)
             obtain rfl : ad277 = ad278 := (by injection e278)
             (try simp only [show (1 : Int).toNat = 1 from rfl, Nat.reduceMul, Nat.reduceEqDiff, Go.Addr.add, ↓reduceIte] at hx278_0)
             have qi278 : (1 < (rd_L3 l1 x18_2).length) = True := eq_true (by omega)
             (try rw [show ((1 : Int)).toNat = 1 from rfl] at hx278_0)
             replace hx278_0 := (HB.out.cell (World.block_lt_of_cell? w _ hx278_0)).trans hx278_0
             replace p278 := eq_true p278
             replace q278 := eq_true q278
             refine start_ (n := 14) (S := fun w' => w'.cell? ad277 = some (.int .i64 (rd (rd_L3 l1 x18_2) 0)) ∧ w'.cell? ⟨ad277.block, ad277.off + 1, none⟩ = some (.int .i64 (rd (rd_L3 l1 x18_2) 1))) (ds := []) (tb 14 0) (by kernel_rfl) rfl rfl ⟨((HB.out.cell (World.block_lt_of_cell? w _ hw277_0)).trans hw277_0), ((HB.out.cell (World.block_lt_of_cell? w _ hw278_0)).trans hw278_0)⟩ (fun hHeld => ?_); refine with_tabW impl_PlayRuns.tab6 impl_PlayRuns.bits6 (fun HT_ HW_ => ?_)
             generalize wr.drew = w18 at HB hx277_0 hx278_0 hHeld ⊢
             refine pu 0 (some 22) (tb 14 1) ?_
             refine pu 1 (some 23) (tb 14 3) ?_
             refine pu 2 (some 24) (tb 14 7) ?_
             refine pu 3 (some 25) (tb 14 15) ?_
             refine pu 4 (some 26) (tb 14 31) ?_
             refine pu 5 (some 27) (tb 14 63) ?_
             refine pu 6 (some 28) (tb 14 127) ?_
             refine pu 8 (some 30) (tb 14 383) ?_
             refine pu 9 (some 31) (tb 14 895) ?_
             refine take_ (i := 7) (N := some 29) (v := ?_) (a' := ?_) (tb 14 1023) rfl rfl (take_ofW HT_.out HW_.out (by kernel_rfl)) (fun _ _ _ h => h) (Or.inl ⟨by rfl, ?_⟩) hHeld ?_ ?_
             rotate_left
             ·rintro w' ⟨s0, s1⟩
              go_simp
              with_reducible rfl
             rotate_left
             ·simp only [Act.put, List.setIfInBounds_toArray, List.set_cons_zero, List.set_cons_succ, i64_w, i32_w]
              rfl
             refine take_ (i := 10) (N := some 32) (v := ?_) (a' := ?_) (tb 14 2047) rfl rfl (take_ofW HT_.out HW_.out (by kernel_rfl)) (fun _ _ _ h => h) (Or.inl ⟨by rfl, ?_⟩) hHeld ?_ ?_
             rotate_left
             ·rintro w' ⟨s0, s1⟩
              go_simp
              with_reducible rfl
             rotate_left
             ·simp only [Act.put, List.setIfInBounds_toArray, List.set_cons_zero, List.set_cons_succ, i64_w, i32_w]
              rfl
             refine one_ (i := 11) (N := some 33) (tb 14 4095) rfl rfl (one_of HT_.out (by kernel_rfl)) (by decide) (fun K hK => ?_)
             refine goes_ Tryd.func39 (by kernel_rfl) rfl #[.string x0_2, .int .i64 (rd (rd_L3 l1 x18_2) 0), .int .i64 (rd (rd_L3 l1 x18_2) 1)] (by rfl) rfl rfl (by (try simp only [List.map_toArray, List.map_cons, List.map_nil]); first | done | rfl | (simp only [List.length_drop, List.length_take]; rfl)) ?_
             with_reducible refine (impl_isRun.calls x0_2 (rd (rd_L3 l1 x18_2) 0) (rd (rd_L3 l1 x18_2) 1) true _ A15.out).mono ?_
             rintro e w' ⟨rfl, ⟨nd, rfl⟩⟩
             refine ⟨_, rfl, ?_⟩
             refine hK.out _ _ ⟨((HB.out.cell (World.block_lt_of_cell? w _ hw277_0)).trans hw277_0), ((HB.out.cell (World.block_lt_of_cell? w _ hw278_0)).trans hw278_0)⟩ (fun hHeld => ?_)
             clear hK K
             refine nm (some 33) ?_
             refine pu 12 (some 34) (tb 14 8191) ?_
             refine pu 13 (some 35) (tb 14 16383) ?_
             refine done_ (done_of HT_.out (by kernel_rfl)) ?_
             try go_wp2
             (try (rw [drewN_self w18]; generalize hq_ : World.drewN w18 _ = w18; have n0_ : Aside0 (Below w.heap.size w w18) := ⟨by rw [← hq_]; exact bw⟩; clear HB hq_; have HB := n0_; clear n0_))
             replace HB := Aside0.mk (below_drew1 HB.out)
             have p280 : 0 ≤ (0 : Int) := (by omega)
             have q280 : 0 < ((rd_L3 l1 x18_2).length : Int) := of_decide_eq_true asm
             obtain ⟨ad280, e280, hx280_0⟩ := Kd.at_int HR276_0.out 0 p280 q280
             have hw280_0 := hx280_0
             (try rw [show ((0 : Int)).toNat = 0 from rfl] at hw280_0)
             (try rw [show 0 * 1 = 0 from rfl] at hw280_0)
             (try rw [Addr.add_zero'] at hw280_0)
             obtain rfl : ad277 = ad280 := (by injection e280)
             have qi280 : (0 < (rd_L3 l1 x18_2).length) = True := eq_true (by omega)
             (try rw [show ((0 : Int)).toNat = 0 from rfl] at hx280_0)
             (try rw [Addr.add_zero'] at hx280_0)
             replace hx280_0 := (HB.out.cell (World.block_lt_of_cell? w _ hx280_0)).trans hx280_0
             replace p280 := eq_true p280
             replace q280 := eq_true q280
             have p281 : 0 ≤ (1 : Int) := (by omega)
             have q281 : 1 < ((rd_L3 l1 x18_2).length : Int) := of_decide_eq_true asm
             obtain ⟨ad281, e281, hx281_0⟩ := Kd.at_int HR276_0.out 1 p281 q281
             have hw281_0 := hx281_0
             (try rw [show ((1 : Int)).toNat = 1 from rfl] at hw281_0)
             (try rw [show 1 * 1 = 1 from rfl] at hw281_0)
             (try simp only [Nat.reduceMul, Nat.reduceEqDiff, Go.Addr.add, ↓reduceIte] at hw281_0)
             obtain rfl : ad277 = ad281 := (by injection e281)
             (try simp only [show (1 : Int).toNat = 1 from rfl, Nat.reduceMul, Nat.reduceEqDiff, Go.Addr.add, ↓reduceIte] at hx281_0)
             have qi281 : (1 < (rd_L3 l1 x18_2).length) = True := eq_true (by omega)
             (try rw [show ((1 : Int)).toNat = 1 from rfl] at hx281_0)
             replace hx281_0 := (HB.out.cell (World.block_lt_of_cell? w _ hx281_0)).trans hx281_0
             replace p281 := eq_true p281
             replace q281 := eq_true q281
             refine start_ (n := 9) (S := fun w' => w'.cell? ad277 = some (.int .i64 (rd (rd_L3 l1 x18_2) 0)) ∧ w'.cell? ⟨ad277.block, ad277.off + 1, none⟩ = some (.int .i64 (rd (rd_L3 l1 x18_2) 1))) (ds := []) (tb 9 0) (by kernel_rfl) rfl rfl ⟨((HB.out.cell (World.block_lt_of_cell? w _ hw280_0)).trans hw280_0), ((HB.out.cell (World.block_lt_of_cell? w _ hw281_0)).trans hw281_0)⟩ (fun hHeld => ?_); refine with_tabW impl_PlayRuns.tab8 impl_PlayRuns.bits8 (fun HT_ HW_ => ?_)
             generalize w18.drew = w19 at HB hx280_0 hx281_0 hHeld ⊢
             refine pu 0 (some 36) (tb 9 1) ?_
             refine pu 1 (some 37) (tb 9 3) ?_
             refine pu 2 (some 38) (tb 9 7) ?_
             refine pu 4 (some 40) (tb 9 23) ?_
             refine pu 5 (some 41) (tb 9 55) ?_
             refine take_ (i := 3) (N := some 39) (v := ?_) (a' := ?_) (tb 9 63) rfl rfl (take_ofW HT_.out HW_.out (by kernel_rfl)) (fun _ _ _ h => h) (Or.inl ⟨by rfl, ?_⟩) hHeld ?_ ?_
             rotate_left
             ·rintro w' ⟨s0, s1⟩
              go_simp
              with_reducible rfl
             rotate_left
             ·simp only [Act.put, List.setIfInBounds_toArray, List.set_cons_zero, List.set_cons_succ, i64_w, i32_w]
              rfl
             refine take_ (i := 6) (N := some 42) (v := ?_) (a' := ?_) (tb 9 127) rfl rfl (take_ofW HT_.out HW_.out (by kernel_rfl)) (fun _ _ _ h => h) (Or.inl ⟨by rfl, ?_⟩) hHeld ?_ ?_
             rotate_left
             ·rintro w' ⟨s0, s1⟩
              go_simp
              with_reducible rfl
             rotate_left
             ·simp only [Act.put, List.setIfInBounds_toArray, List.set_cons_zero, List.set_cons_succ, i64_w, i32_w]
              rfl
             refine one_ (i := 7) (N := some 43) (tb 9 255) rfl rfl (one_of HT_.out (by kernel_rfl)) (by decide) (fun K hK => ?_)
             refine goes_ Tryd.func40 (by kernel_rfl) rfl #[.string x0_2, .int .i64 (rd (rd_L3 l1 x18_2) 0), .int .i64 (rd (rd_L3 l1 x18_2) 1)] (by rfl) rfl rfl (by (try simp only [List.map_toArray, List.map_cons, List.map_nil]); first | done | rfl | (simp only [List.length_drop, List.length_take]; rfl)) ?_
             with_reducible refine (impl_turnAll.calls x0_2 (rd (rd_L3 l1 x18_2) 0) (rd (rd_L3 l1 x18_2) 1) t282 _ ?side1 A17.out).mono ?_
             (case side1 => exact Dr.mm HMM)
             rintro e w20 ⟨rfl, hb⟩
             refine ⟨_, rfl, ?_⟩
             replace HB := bs hb
             (try clear hb)
             refine hK.out _ _ ⟨((HB.out.cell (World.block_lt_of_cell? w _ hw280_0)).trans hw280_0), ((HB.out.cell (World.block_lt_of_cell? w _ hw281_0)).trans hw281_0)⟩ (fun hHeld => ?_)
             clear hK K
             refine nm (some 43) ?_
             refine pu 8 (some 0) (tb 9 511) ?_
             refine done_ (done_of HT_.out (by kernel_rfl)) ?_
             try go_wp2
             go_roundg k2
             case measure => have := HJ2.out; have := HK2.out; omega
             case rel => exact ⟨(t282), (wrap64 (x18_2 + 1)), (rs), (rs), H', ⟨by have := HJ2.out; have := HK2.out; omega⟩, ⟨bw⟩⟩
            ·replace c16 := Bool.eq_false_iff.mpr c16
             subst c16
             rw [if_neg (show ¬ (false = true) by decide)] at H
             simp only [Option.some.injEq, Prod.mk.injEq] at H
             obtain ⟨rfl, rfl⟩ := H
             have p276 : 0 ≤ (x18_2 : Int) := of_decide_eq_true asm
             have q276 : x18_2 < (l1.length : Int) := of_decide_eq_true asm
             obtain ⟨ad276, A276_0, c276_0, e276, hx276_0, hl276_0, hi276_0⟩ := at_L3 HR1.out x18_2 p276 q276
             cases e276
             replace hx276_0 := (HB.out.cell (World.block_lt_of_cell? w _ hx276_0)).trans hx276_0
             have HR276_0 := Aside0.mk hi276_0
             have HC276_0 := Aside0.mk hl276_0
             clear hi276_0 hl276_0
             replace p276 := eq_true p276
             replace q276 := eq_true q276
             try go_wp2
             replace HB := Aside0.mk (below_drew1 HB.out)
             have p277 : 0 ≤ (0 : Int) := (by omega)
             have q277 : 0 < ((rd_L3 l1 x18_2).length : Int) := of_decide_eq_true asm
             obtain ⟨ad277, e277, hx277_0⟩ := Kd.at_int HR276_0.out 0 p277 q277
             have hw277_0 := hx277_0
             (try rw [show ((0 : Int)).toNat = 0 from rfl] at hw277_0)
             (try rw [show 0 * 1 = 0 from rfl] at hw277_0)
             (try rw [Addr.add_zero'] at hw277_0)
             cases e277
             have qi277 : (0 < (rd_L3 l1 x18_2).length) = True := eq_true (by omega)
             (try rw [show ((0 : Int)).toNat = 0 from rfl] at hx277_0)
             (try rw [Addr.add_zero'] at hx277_0)
             replace hx277_0 := (HB.out.cell (World.block_lt_of_cell? w _ hx277_0)).trans hx277_0
             replace p277 := eq_true p277
             replace q277 := eq_true q277
             have p278 : 0 ≤ (1 : Int) := (by omega)
             have q278 : 1 < ((rd_L3 l1 x18_2).length : Int) := of_decide_eq_true asm
             obtain ⟨ad278, e278, hx278_0⟩ := Kd.at_int HR276_0.out 1 p278 q278
             have hw278_0 := hx278_0
             (try rw [show ((1 : Int)).toNat = 1 from rfl] at hw278_0)
             (try rw [show 1 * 1 = 1 from rfl] at hw278_0)
             (try simp only [Nat.reduceMul, Nat.reduceEqDiff, Go.Addr.add, ↓reduceIte] at hw278_0)
             obtain rfl : ad277 = ad278 := (by injection e278)
             (try simp only [show (1 : Int).toNat = 1 from rfl, Nat.reduceMul, Nat.reduceEqDiff, Go.Addr.add, ↓reduceIte] at hx278_0)
             have qi278 : (1 < (rd_L3 l1 x18_2).length) = True := eq_true (by omega)
             (try rw [show ((1 : Int)).toNat = 1 from rfl] at hx278_0)
             replace hx278_0 := (HB.out.cell (World.block_lt_of_cell? w _ hx278_0)).trans hx278_0
             replace p278 := eq_true p278
             replace q278 := eq_true q278
             refine start_ (n := 14) (S := fun w' => w'.cell? ad277 = some (.int .i64 (rd (rd_L3 l1 x18_2) 0)) ∧ w'.cell? ⟨ad277.block, ad277.off + 1, none⟩ = some (.int .i64 (rd (rd_L3 l1 x18_2) 1))) (ds := []) (tb 14 0) (by kernel_rfl) rfl rfl ⟨((HB.out.cell (World.block_lt_of_cell? w _ hw277_0)).trans hw277_0), ((HB.out.cell (World.block_lt_of_cell? w _ hw278_0)).trans hw278_0)⟩ (fun hHeld => ?_); refine with_tabW impl_PlayRuns.tab6 impl_PlayRuns.bits6 (fun HT_ HW_ => ?_)
             generalize wr.drew = w21 at HB hx277_0 hx278_0 hHeld ⊢
             refine pu 0 (some 22) (tb 14 1) ?_
             refine pu 1 (some 23) (tb 14 3) ?_
             refine pu 2 (some 24) (tb 14 7) ?_
             refine pu 3 (some 25) (tb 14 15) ?_
             refine pu 4 (some 26) (tb 14 31) ?_
             refine pu 5 (some 27) (tb 14 63) ?_
             refine pu 6 (some 28) (tb 14 127) ?_
             refine pu 8 (some 30) (tb 14 383) ?_
             refine pu 9 (some 31) (tb 14 895) ?_
             refine take_ (i := 7) (N := some 29) (v := ?_) (a' := ?_) (tb 14 1023) rfl rfl (take_ofW HT_.out HW_.out (by kernel_rfl)) (fun _ _ _ h => h) (Or.inl ⟨by rfl, ?_⟩) hHeld ?_ ?_
             rotate_left
             ·rintro w' ⟨s0, s1⟩
              go_simp
              with_reducible rfl
             rotate_left
             ·simp only [Act.put, List.setIfInBounds_toArray, List.set_cons_zero, List.set_cons_succ, i64_w, i32_w]
              rfl
             refine take_ (i := 10) (N := some 32) (v := ?_) (a' := ?_) (tb 14 2047) rfl rfl (take_ofW HT_.out HW_.out (by kernel_rfl)) (fun _ _ _ h => h) (Or.inl ⟨by rfl, ?_⟩) hHeld ?_ ?_
             rotate_left
             ·rintro w' ⟨s0, s1⟩
              go_simp
              with_reducible rfl
             rotate_left
             ·simp only [Act.put, List.setIfInBounds_toArray, List.set_cons_zero, List.set_cons_succ, i64_w, i32_w]
              rfl
             refine one_ (i := 11) (N := some 33) (tb 14 4095) rfl rfl (one_of HT_.out (by kernel_rfl)) (by decide) (fun K hK => ?_)
             refine goes_ Tryd.func39 (by kernel_rfl) rfl #[.string x0_2, .int .i64 (rd (rd_L3 l1 x18_2) 0), .int .i64 (rd (rd_L3 l1 x18_2) 1)] (by rfl) rfl rfl (by (try simp only [List.map_toArray, List.map_cons, List.map_nil]); first | done | rfl | (simp only [List.length_drop, List.length_take]; rfl)) ?_
             with_reducible refine (impl_isRun.calls x0_2 (rd (rd_L3 l1 x18_2) 0) (rd (rd_L3 l1 x18_2) 1) false _ A15.out).mono ?_
             rintro e w' ⟨rfl, ⟨nd, rfl⟩⟩
             refine ⟨_, rfl, ?_⟩
             refine hK.out _ _ ⟨((HB.out.cell (World.block_lt_of_cell? w _ hw277_0)).trans hw277_0), ((HB.out.cell (World.block_lt_of_cell? w _ hw278_0)).trans hw278_0)⟩ (fun hHeld => ?_)
             clear hK K
             refine nm (some 33) ?_
             refine pu 12 (some 34) (tb 14 8191) ?_
             refine pu 13 (some 35) (tb 14 16383) ?_
             refine done_ (done_of HT_.out (by kernel_rfl)) ?_
             try go_wp2
             go_ret2
             exact ⟨rs, bw⟩
           ·rw [if_neg c14] at H
            exact absurd H (by simp)
          ·rw [if_neg c13] at H
           exact absurd H (by simp)
         ·rw [if_neg c12] at H
          have c12b0 : (((rd_L3 l1 x18_2).length : Int) == 2) = false := beq_eq_false_iff_ne.mpr c12
          have c12b1 : (((rd_L3 l1 x18_2).length : Int) != 2) = true := bne_iff_ne.mpr c12
          simp only [Option.some.injEq, Prod.mk.injEq] at H
          obtain ⟨rfl, rfl⟩ := H
          have p276 : 0 ≤ (x18_2 : Int) := of_decide_eq_true asm
          have q276 : x18_2 < (l1.length : Int) := of_decide_eq_true asm
          obtain ⟨ad276, A276_0, c276_0, e276, hx276_0, hl276_0, hi276_0⟩ := at_L3 HR1.out x18_2 p276 q276
          cases e276
          replace hx276_0 := (HB.out.cell (World.block_lt_of_cell? w _ hx276_0)).trans hx276_0
          have HR276_0 := Aside0.mk hi276_0
          have HC276_0 := Aside0.mk hl276_0
          clear hi276_0 hl276_0
          replace p276 := eq_true p276
          replace q276 := eq_true q276
          try go_wp2
          replace HB := Aside0.mk (below_drew1 HB.out)
          refine start_ (n := 14) (S := fun w' => True) (ds := []) (tb 14 0) (by kernel_rfl) rfl rfl trivial (fun hHeld => ?_); refine with_tabW impl_PlayRuns.tab6 impl_PlayRuns.bits6 (fun HT_ HW_ => ?_)
          generalize wr.drew = w22 at HB hHeld ⊢
          refine pu 0 (some 22) (tb 14 1) ?_
          refine pu 1 (some 23) (tb 14 3) ?_
          refine pu 2 (some 24) (tb 14 7) ?_
          refine pu 3 (some 25) (tb 14 15) ?_
          refine pure_ (i := 4) (N := some 26) (v := undef) (a' := ?_) (tb 14 31) rfl rfl (any_of HT_.out (by kernel_rfl)) (fun _ _ _ h => h) (Or.inr ⟨by rfl, rfl⟩) ?_ ?_
          rotate_left
          ·simp only [Act.put, List.setIfInBounds_toArray, List.set_cons_zero, List.set_cons_succ, i64_w, i32_w]
           rfl
          refine pure_ (i := 5) (N := some 27) (v := undef) (a' := ?_) (tb 14 63) rfl rfl (any_of HT_.out (by kernel_rfl)) (fun _ _ _ h => h) (Or.inr ⟨by rfl, rfl⟩) ?_ ?_
          rotate_left
          ·simp only [Act.put, List.setIfInBounds_toArray, List.set_cons_zero, List.set_cons_succ, i64_w, i32_w]
           rfl
          refine pure_ (i := 6) (N := some 28) (v := undef) (a' := ?_) (tb 14 127) rfl rfl (any_of HT_.out (by kernel_rfl)) (fun _ _ _ h => h) (Or.inr ⟨by rfl, rfl⟩) ?_ ?_
          rotate_left
          ·simp only [Act.put, List.setIfInBounds_toArray, List.set_cons_zero, List.set_cons_succ, i64_w, i32_w]
           rfl
          refine pure_ (i := 7) (N := some 29) (v := undef) (a' := ?_) (tb 14 255) rfl rfl (any_of HT_.out (by kernel_rfl)) (fun _ _ _ h => h) (Or.inr ⟨by rfl, rfl⟩) ?_ ?_
          rotate_left
          ·simp only [Act.put, List.setIfInBounds_toArray, List.set_cons_zero, List.set_cons_succ, i64_w, i32_w]
           rfl
          refine pure_ (i := 8) (N := some 30) (v := undef) (a' := ?_) (tb 14 511) rfl rfl (any_of HT_.out (by kernel_rfl)) (fun _ _ _ h => h) (Or.inr ⟨by rfl, rfl⟩) ?_ ?_
          rotate_left
          ·simp only [Act.put, List.setIfInBounds_toArray, List.set_cons_zero, List.set_cons_succ, i64_w, i32_w]
           rfl
          refine pure_ (i := 9) (N := some 31) (v := undef) (a' := ?_) (tb 14 1023) rfl rfl (any_of HT_.out (by kernel_rfl)) (fun _ _ _ h => h) (Or.inr ⟨by rfl, rfl⟩) ?_ ?_
          rotate_left
          ·simp only [Act.put, List.setIfInBounds_toArray, List.set_cons_zero, List.set_cons_succ, i64_w, i32_w]
           rfl
          refine pure_ (i := 10) (N := some 32) (v := undef) (a' := ?_) (tb 14 2047) rfl rfl (any_of HT_.out (by kernel_rfl)) (fun _ _ _ h => h) (Or.inr ⟨by rfl, rfl⟩) ?_ ?_
          rotate_left
          ·simp only [Act.put, List.setIfInBounds_toArray, List.set_cons_zero, List.set_cons_succ, i64_w, i32_w]
           rfl
          refine pure_ (i := 11) (N := some 33) (v := undef) (a' := ?_) (tb 14 4095) rfl rfl (any_of HT_.out (by kernel_rfl)) (fun _ _ _ h => h) (Or.inr ⟨by rfl, rfl⟩) ?_ ?_
          rotate_left
          ·simp only [Act.put, List.setIfInBounds_toArray, List.set_cons_zero, List.set_cons_succ, i64_w, i32_w]
           rfl
          refine pure_ (i := 12) (N := some 34) (v := undef) (a' := ?_) (tb 14 8191) rfl rfl (any_of HT_.out (by kernel_rfl)) (fun _ _ _ h => h) (Or.inr ⟨by rfl, rfl⟩) ?_ ?_
          rotate_left
          ·simp only [Act.put, List.setIfInBounds_toArray, List.set_cons_zero, List.set_cons_succ, i64_w, i32_w]
           rfl
          refine pu 13 (some 35) (tb 14 16383) ?_
          refine done_ (done_of HT_.out (by kernel_rfl)) ?_
          try go_wp2
          go_ret2
          exact ⟨rs, bw⟩
        ·rw [if_neg c11] at H
         exact absurd H (by simp)
       ·rw [if_neg c10] at H
        exact absurd H (by simp)
      ·rw [if_neg c9] at H
       have c9b0 : decide (x18_2 < (l1.length : Int)) = false := decide_eq_false c9
       clear c9
       simp only [Option.some.injEq, Prod.mk.injEq] at H
       obtain ⟨rfl, rfl⟩ := H
       go_wp2
       go_ret2
       exact ⟨rs, bw⟩

/-! ### impl_isOrderedMany: function 41 -/
def impl_isOrderedMany.f (a0 : Int) : Option (Bool) := (impl_in.f a0 1 40).bind fun t283 => (some t283)
set_option maxHeartbeats 8000000 in
set_option maxRecDepth 100000 in
theorem impl_isOrderedMany.calls (a0 : Int) (r : Bool) (w : World) (h : impl_isOrderedMany.f a0 = some r) :
  Calls Tryd.prog 41 #[.int .i64 a0] w fun e w' => e = .returned (.bool r) ∧ Drawn0 w w' := by
 unfold impl_isOrderedMany.f at h
 have H := h
 clear h
 replace H := Option.bind_eq_some_iff.mp H
 obtain ⟨t283, A20, H⟩ := H
 (try dsimp only at H)
 have A2 := Aside0.mk A20
 clear A20
 obtain rfl := Option.some.inj H
 go_enter Tryd.func41, Tryd.ntmps41
 go_wp2_with (first | ((with_reducible refine gate_callee (f := 42) rfl ?_); refine gl (some 4) Tryd.func42 #[.int .i64 a0, .int .i64 1, .int .i64 40] ?_; (with_reducible refine (impl_in.calls a0 1 40 t283 _ A2.out).mono ?_); rintro e w' ⟨rfl, ⟨nd, rfl⟩⟩; refine ⟨_, rfl, ?_⟩))
 go_ret
 exact ⟨rs, by repeat (first | exact Drawn0.refl _ | apply Drawn0.step)⟩

/-! ### impl_MostRuns: function 17 -/
def impl_MostRuns.f (a0 : Int) : Option (Int × Bool) := (impl_isOrderedMany.f a0).bind fun t284 => (if t284 = true then (some (wrap64 (Int.tdiv (wrap64 (a0 + 1)) 2), true)) else (some (0, false)))
set_option maxHeartbeats 8000000 in
set_option maxRecDepth 100000 in
theorem impl_MostRuns.calls (a0 : Int) (r1 : Int) (r2 : Bool) (w : World) (h : impl_MostRuns.f a0 = some (r1, r2)) :
  Calls Tryd.prog 17 #[.int .i64 a0] w fun e w' => e = .returned (.tuple #[.int .i64 r1, .bool r2]) ∧ Drawn0 w w' := by
 unfold impl_MostRuns.f at h
 have H := h
 clear h
 replace H := Option.bind_eq_some_iff.mp H
 obtain ⟨t284, A20, H⟩ := H
 (try dsimp only at H)
 have A2 := Aside0.mk A20
 clear A20
 by_cases c3 : t284 = true
 ·subst c3
  rw [if_pos rfl] at H
  simp only [Option.some.injEq, Prod.mk.injEq] at H
  obtain ⟨rfl, rfl⟩ := H
  go_enter Tryd.func17, Tryd.ntmps17
  go_wp2_with (first | ((with_reducible refine gate_callee (f := 41) rfl ?_); refine gl (some 5) Tryd.func41 #[.int .i64 a0] ?_; (with_reducible refine (impl_isOrderedMany.calls a0 true _ A2.out).mono ?_); rintro e w' ⟨rfl, ⟨nd, rfl⟩⟩; refine ⟨_, rfl, ?_⟩))
  go_ret2
  exact ⟨rs, by repeat (first | exact Drawn0.refl _ | apply Drawn0.step)⟩
 ·replace c3 := Bool.eq_false_iff.mpr c3
  subst c3
  rw [if_neg (show ¬ (false = true) by decide)] at H
  simp only [Option.some.injEq, Prod.mk.injEq] at H
  obtain ⟨rfl, rfl⟩ := H
  go_enter Tryd.func17, Tryd.ntmps17
  go_wp2_with (first | ((with_reducible refine gate_callee (f := 41) rfl ?_); refine gl (some 5) Tryd.func41 #[.int .i64 a0] ?_; (with_reducible refine (impl_isOrderedMany.calls a0 false _ A2.out).mono ?_); rintro e w' ⟨rfl, ⟨nd, rfl⟩⟩; refine ⟨_, rfl, ?_⟩))
  go_ret2
  exact ⟨rs, by repeat (first | exact Drawn0.refl _ | apply Drawn0.step)⟩

end Go.Proofs.YteoklfgmdcofcaaDoor.PFnOrdersTurn
