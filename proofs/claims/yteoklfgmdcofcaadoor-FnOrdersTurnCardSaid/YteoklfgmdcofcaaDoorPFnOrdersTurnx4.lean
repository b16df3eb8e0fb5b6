-- Laid by xprint, a program of this session that runs over the kit's print.
import Derived.Test.YteoklfgmdcofcaaDoorPFnOrdersTurnx0
import Derived.Test.YteoklfgmdcofcaaDoorPFnOrdersTurnx1
import Derived.Test.YteoklfgmdcofcaaDoorPFnOrdersTurnx3
namespace Go.Proofs.YteoklfgmdcofcaaDoor.PFnOrdersTurn
open Go.RowKit Go.Proofs.YteoklfgmdcofcaaDoorW.PrintWords Go.Proofs.YteoklfgmdcofcaaDoorW.PrintLast Go.Proofs.YteoklfgmdcofcaaDoorW.PrintMore Go.Proofs.YteoklfgmdcofcaaDoor.Sq
attribute [local go_sem] max2_int min2_int max_two min_two max_three min_three max_four min_four   -- for this text's walks alone
set_option linter.unusedVariables false
set_option linter.unusedSimpArgs false

/-! ### spec_odFirsts: function 37 -/
def spec_odFirsts.l0 : Nat → ByteArray → ByteArray → List Int → Int → ByteArray → Option (List Int)
  | 0, _, _, _, _, _ => none
  | k + 1, x0, x1, x5, x249000, x249001 => if x249000 < (x249001.size : Int) then (if 0 ≤ x249000 then (if bt x249001 x249000 < 128 then (if x249000 < (x0.size : Int) then (if x249000 < (x1.size : Int) then (if (wrap64 (x249000 + 1)) < (x0.size : Int) then (if 0 ≤ (wrap64 (x249000 + 1)) then (if (wrap64 (x249000 + 1)) < (x1.size : Int) then (if (((bt x0 x249000) != (bt x1 x249000)) != ((bt x0 (wrap64 (x249000 + 1))) != (bt x1 (wrap64 (x249000 + 1))))) = true then (if x5.length < 17592186044416 then (spec_odFirsts.l0 k x0 x1 (x5 ++ [wrap64 (x249000 + 1)]) (x249000 + 1) x249001) else (none)) else (spec_odFirsts.l0 k x0 x1 x5 (x249000 + 1) x249001)) else (none)) else (none)) else (if (((bt x0 x249000) != (bt x1 x249000)) != false) = true then (if x5.length < 17592186044416 then (spec_odFirsts.l0 k x0 x1 (x5 ++ [wrap64 (x249000 + 1)]) (x249000 + 1) x249001) else (none)) else (spec_odFirsts.l0 k x0 x1 x5 (x249000 + 1) x249001))) else (none)) else (none)) else (none)) else (none)) else (some x5)
def spec_odFirsts.f (k : Nat) (a0 : ByteArray) (a1 : ByteArray) : Option (List Int) := spec_odFirsts.l0 k a0 a1 ([] : List Int) 0 a0
theorem spec_odFirsts.mono_l : ∀ k, (∀ y0 y1 y2 y3 y4, LeO (spec_odFirsts.l0 k y0 y1 y2 y3 y4) (spec_odFirsts.l0 (k + 1) y0 y1 y2 y3 y4))
  | 0 => fun _ _ _ _ _ r h => by simp [spec_odFirsts.l0] at h
  | k + 1 => by
    have ih0 := spec_odFirsts.mono_l k
    · intro y0 y1 y2 y3 y4
      unfold spec_odFirsts.l0
      repeat' first
      | (with_reducible exact ih0 _ _ _ _ _)
      | (with_reducible exact LeO.refl _)
      | (with_reducible exact LeO.none _)
      | (with_reducible refine LeO.ite ?_ ?_)
      | (with_reducible refine LeO.bind ?_ (fun _ => ?_))
      | exact ih0 _ _ _ _ _
      | exact LeO.none _
      | refine LeO.ite ?_ ?_
      | refine LeO.bind ?_ (fun _ => ?_)
theorem spec_odFirsts.mono : ∀ a0 a1 k, LeO (spec_odFirsts.f k a0 a1) (spec_odFirsts.f (k + 1) a0 a1) := by
  intro a0 a1 k
  have ih0 := spec_odFirsts.mono_l k
  unfold spec_odFirsts.f
  repeat' first
      | (with_reducible exact ih0 _ _ _ _ _)
      | (with_reducible exact LeO.refl _)
      | (with_reducible exact LeO.none _)
      | (with_reducible refine LeO.ite ?_ ?_)
      | (with_reducible refine LeO.bind ?_ (fun _ => ?_))
      | exact ih0 _ _ _ _ _
      | exact LeO.none _
      | refine LeO.ite ?_ ?_
      | refine LeO.bind ?_ (fun _ => ?_)
set_option maxHeartbeats 8000000 in
set_option maxRecDepth 100000 in
theorem spec_odFirsts.calls (k : Nat) (a0 : ByteArray) (a1 : ByteArray) (r : List Int) (w : World) (h : spec_odFirsts.f k a0 a1 = some r) :
  Calls Tryd.prog 37 #[.string a0, .string a1] w fun e w' => ∃ v0_ : Value, e = .returned (v0_) ∧ Kd.R (Kd.int .i64) 3 w' w.heap.size (fun _ => True) v0_ r ∧ Below w.heap.size w w' := by
 have HB := Aside0.mk (Below.refl w.heap.size w)
 unfold spec_odFirsts.f at h
 have H := h
 clear h
 have H' := Aside0.mk H
 clear H
 go_enter Tryd.func37, Tryd.ntmps37
 iterate 4 ((try go_wp2_with (first | ((with_reducible refine gate_dst (N := 10) rfl ?_); refine iter_event ?hg (N := 10) ?hd (s := a0) ?hx Tryd.underlying9 ?_; (case hd => rfl); (case hg => rfl); (case hx => exact ⟨_, rfl, by first | rfl | (go_simp; done) | (go_simp; rfl)⟩); intro gb248 hg w3 hbox hb; have IT248 := Aside0.mk (hbox); have GW248 := gs hg; have GE248 := gs hg; replace HB := bs hb; clear hb hbox hg))); (try go_quiet (fail)))
 (try simp only [Act.put, List.setIfInBounds_toArray, List.set_cons_zero, List.set_cons_succ])
 go_loopg [5] k (fun kq v5 w' => ∃ (x5_1 : List Int) (x249000_1 : Int), Aside0 (spec_odFirsts.l0 kq a0 a1 x5_1 x249000_1 a0 = some r) ∧ Aside0 (kq ≤ k) ∧ Aside0 (Kd.R (Kd.int .i64) 3 w' w.heap.size (fun _ => True) v5 x5_1) ∧ Aside0 (w'.heap[gb248]? = some (.stringIter a0 (x249000_1 : Int).toNat)) ∧ Aside0 (Below w.heap.size w w'))
 case atStart => exact ⟨(([] : List Int)), (0), H', ⟨Nat.le_refl _⟩, ⟨by first | exact Kd.R_nil _ _ _ _ _ | exact Kd.N_nil _ _ _ _ _ | exact Kd.V_nil _ _ _ _ _ | exact Kd.Q_nil _ _ _ _ _ | exact Kd.S_nil _ _ _ _ _⟩, ⟨by (with_reducible repeat (first | refine blk_drewN ?_ _ | refine blk_drew ?_ | refine blk_alloc ?_ _)); exact IT248.out⟩, ⟨bw⟩⟩
 case round =>
  clear H'
  try clear p2
  try clear c3
  obtain ⟨x5_1, x249000_1, HA, HK1, HO_5, IT248, HB⟩ := hrel
  cases gk with
  | zero => exact absurd HA.out (by simp [spec_odFirsts.l0])
  | succ k1 =>
   have H := HA.out
   clear HA
   simp only [spec_odFirsts.l0] at H
   by_cases c4 : x249000_1 < (a0.size : Int)
   ·rw [if_pos c4] at H
    have c4b0 : decide (x249000_1 < (a0.size : Int)) = true := decide_eq_true c4
    clear c4
    by_cases c5 : 0 ≤ x249000_1
    ·rw [if_pos c5] at H
     have c5b0 := eq_true c5
     have c5b1 : decide (0 ≤ x249000_1) = true := decide_eq_true c5
     clear c5
     by_cases c6 : bt a0 x249000_1 < 128
     ·rw [if_pos c6] at H
      have c6b0 := eq_true c6
      have c6b1 : decide (bt a0 x249000_1 < 128) = true := decide_eq_true c6
      clear c6
      by_cases c7 : x249000_1 < (a0.size : Int)
      ·rw [if_pos c7] at H
       have c7b0 : decide (x249000_1 < (a0.size : Int)) = true := decide_eq_true c7
       clear c7
       by_cases c9 : x249000_1 < (a1.size : Int)
       ·rw [if_pos c9] at H
        have c9b0 : decide (x249000_1 < (a1.size : Int)) = true := decide_eq_true c9
        clear c9
        by_cases c11 : (wrap64 (x249000_1 + 1)) < (a0.size : Int)
        ·rw [if_pos c11] at H
         have c11b0 : decide ((wrap64 (x249000_1 + 1)) < (a0.size : Int)) = true := decide_eq_true c11
         clear c11
         obtain ⟨ji12, hji12⟩ : ∃ j_ : Int, (wrap64 (x249000_1 + 1)) = j_ := ⟨_, rfl⟩
         replace H : (if 0 ≤ (ji12) then (if (ji12) < (a1.size : Int) then (if (((bt a0 x249000_1) != (bt a1 x249000_1)) != ((bt a0 (ji12)) != (bt a1 (ji12)))) = true then (if x5_1.length < 17592186044416 then (spec_odFirsts.l0 k1 a0 a1 (x5_1 ++ [ji12]) (x249000_1 + 1) a0) else (none)) else (spec_odFirsts.l0 k1 a0 a1 x5_1 (x249000_1 + 1) a0)) else (none)) else (none)) = some r := by first | (rw [hji12] at H; exact H) | (simp only [hji12] at H ⊢; exact H)
         (try rw [hji12] at c11b0)
         have hji12w : (IntKind.i64.wrap (x249000_1 + 1)) = ji12 := (i64_w _).trans hji12
         by_cases c13 : 0 ≤ (ji12)
         ·rw [if_pos c13] at H
          have c13b0 : decide (0 ≤ (ji12)) = true := decide_eq_true c13
          clear c13
          by_cases c15 : (ji12) < (a1.size : Int)
          ·rw [if_pos c15] at H
           have c15b0 : decide ((ji12) < (a1.size : Int)) = true := decide_eq_true c15
           clear c15
           by_cases c17 : (((bt a0 x249000_1) != (bt a1 x249000_1)) != ((bt a0 (ji12)) != (bt a1 (ji12)))) = true
           ·rw [if_pos c17] at H
            have c17b0 : (((bt a0 x249000_1) != (bt a1 x249000_1)) != ((bt a0 (ji12)) != (bt a1 (ji12)))) = true := c17
            (try (have c17b1 : decide (((bt a0 x249000_1) != (bt a1 x249000_1)) = ((bt a0 (ji12)) != (bt a1 (ji12)))) = false := by simpa using c17))
            (try (have c17b2 : (((bt a0 x249000_1) != (bt a1 x249000_1)) == ((bt a0 (ji12)) != (bt a1 (ji12)))) = false := by simpa using c17))
            (try (have c17b3 : ¬ (((bt a0 x249000_1) != (bt a1 x249000_1)) = ((bt a0 (ji12)) != (bt a1 (ji12)))) := by simpa using c17))
            clear c17
            by_cases c18 : x5_1.length < 17592186044416
            ·rw [if_pos c18] at H
             have LMc18 := Aside0.mk c18
             clear c18
             obtain ⟨y249, hy249⟩ : ∃ y_ : List Int, y_ = (x5_1 ++ [ji12]) := ⟨_, rfl⟩
             replace H : (spec_odFirsts.l0 k1 a0 a1 y249 (x249000_1 + 1) a0) = some r := by first | (rw [hy249]; with_reducible exact H) | (have H2_ := (Option.bind_some _ _).symm.trans H; rw [hy249]; with_reducible exact H2_) | (have H2_ := (Option.bind_some _ _).symm.trans H; with_reducible exact H2_) | with_reducible exact H | (rw [hy249]; exact H) | exact H
             have Ny249 := Aside0.mk hy249
             clear hy249
             have H' := Aside0.mk H
             clear H
             iterate 4 ((try go_wp2_with (first | ((with_reducible refine gate_dst (N := 11) rfl ?_); refine next_event ?hg (N := 11) ?hd (g := gb248) (s := a0) (p := x249000_1) ?hx ?hb ?h0 ?h1 ?h2 ?_; (case hd => rfl); (case hg => rfl); (case hx => exact ⟨_, rfl, by first | rfl | (go_simp; done) | (go_simp; rfl)⟩); (case hb => exact (by (with_reducible repeat (first | refine blk_drewN ?_ _ | refine blk_drew ?_ | refine blk_alloc ?_ _)); exact IT248.out)); (case h0 => first | (with_reducible decide) | exact of_decide_eq_true asm); (case h1 => exact of_decide_eq_true asm); (case h2 => exact of_decide_eq_true asm); intro w19 hbox hk; replace HO_5 := Aside0.mk (Kd.R_turned (pr HO_5) (by (with_reducible repeat (first | refine blk_drewN ?_ _ | refine blk_drew ?_ | refine blk_alloc ?_ _)); exact IT248.out) hk); replace IT248 := Aside0.mk (hbox); replace HB := Aside0.mk (below_turned bw GE248.out hk); clear hbox hk; have p8 : 0 ≤ (x249000_1 : Int) := of_decide_eq_true asm; have q8 : x249000_1 < (a0.size : Int) := of_decide_eq_true asm; have hx8 := bt_at a0 x249000_1; replace p8 := eq_true p8; replace q8 := eq_true q8; have p10 : 0 ≤ (x249000_1 : Int) := of_decide_eq_true asm; have q10 : x249000_1 < (a1.size : Int) := of_decide_eq_true asm; have hx10 := bt_at a1 x249000_1; replace p10 := eq_true p10; replace q10 := eq_true q10; have p14 : 0 ≤ ((ji12) : Int) := of_decide_eq_true asm; have q14 : (ji12) < (a0.size : Int) := of_decide_eq_true asm; have hx14 := bt_at a0 (ji12); replace p14 := eq_true p14; replace q14 := eq_true q14; have p16 : 0 ≤ ((ji12) : Int) := of_decide_eq_true asm; have q16 : (ji12) < (a1.size : Int) := of_decide_eq_true asm; have hx16 := bt_at a1 (ji12); replace p16 := eq_true p16; replace q16 := eq_true q16) | ((with_reducible refine gate_builtin (b := .append) (xs := #[.tmp 40, .tmp 43]) rfl ?_); at_builtin; refine Kd.R_append (Kd.int .i64) (w0 := w) w.heap.size rfl (.tmp 40) (.tmp 43) 31 3 (.int .i64 0) 8 rfl Tryd.underlying31 info3 rfl (by decide) (by omega) u5 x5_1 ji12 [.int .i64 ji12] (fun _ => True) (fun _ => False) rfl rfl ?aP (fun _ hk => hk.elim) ?aF ?aO ?aB ?aS ?aL ?_; (case aP => exact rfl); (case aB => exact bw); (case aF => exact (fun _ _ => trivial)); (case aO => exact (pr HO_5)); (case aS => exact (below_size bw)); (case aL => have := LMc18.out; omega); intro v250 w20 ho hb hg hat; rw [← Ny249.out] at ho; have n0_ := Aside0.mk (blk_grown (g := gb248) (o := .stringIter a0 (x249000_1 + 1 : Int).toNat) (by (with_reducible repeat (first | refine blk_drewN ?_ _ | refine blk_drew ?_ | refine blk_alloc ?_ _)); exact IT248.out) hg (Kd.R_nei HO_5.out IT248.out)); have n1_ := Aside0.mk (hb); have n2_ := Aside0.mk (ho); clear IT248; clear HB; clear HO_5; have IT248 := n0_; have HB := n1_; have HO251 := n2_; clear n0_ n1_ n2_; clear ho hb hg hat))); (try go_quiet (fail)))
             go_roundg k1
             case measure => have := HK1.out; omega
             case rel => exact ⟨(y249), (x249000_1 + 1), H', ⟨by have := HK1.out; omega⟩, ⟨pr HO251⟩, ⟨by (with_reducible repeat (first | refine blk_drewN ?_ _ | refine blk_drew ?_ | refine blk_alloc ?_ _)); exact IT248.out⟩, ⟨bw⟩⟩
            ·rw [if_neg c18] at H
             exact absurd H (by simp)
           ·rw [if_neg c17] at H
            have c17b0 : (((bt a0 x249000_1) != (bt a1 x249000_1)) != ((bt a0 (ji12)) != (bt a1 (ji12)))) = false := by simpa using c17
            (try (have c17b1 : decide (((bt a0 x249000_1) != (bt a1 x249000_1)) = ((bt a0 (ji12)) != (bt a1 (ji12)))) = true := by simpa using c17))
            (try (have c17b2 : (((bt a0 x249000_1) != (bt a1 x249000_1)) == ((bt a0 (ji12)) != (bt a1 (ji12)))) = true := by simpa using c17))
            clear c17
            have H' := Aside0.mk H
            clear H
            iterate 4 ((try go_wp2_with (first | ((with_reducible refine gate_dst (N := 11) rfl ?_); refine next_event ?hg (N := 11) ?hd (g := gb248) (s := a0) (p := x249000_1) ?hx ?hb ?h0 ?h1 ?h2 ?_; (case hd => rfl); (case hg => rfl); (case hx => exact ⟨_, rfl, by first | rfl | (go_simp; done) | (go_simp; rfl)⟩); (case hb => exact (by (with_reducible repeat (first | refine blk_drewN ?_ _ | refine blk_drew ?_ | refine blk_alloc ?_ _)); exact IT248.out)); (case h0 => first | (with_reducible decide) | exact of_decide_eq_true asm); (case h1 => exact of_decide_eq_true asm); (case h2 => exact of_decide_eq_true asm); intro w21 hbox hk; replace HO_5 := Aside0.mk (Kd.R_turned (pr HO_5) (by (with_reducible repeat (first | refine blk_drewN ?_ _ | refine blk_drew ?_ | refine blk_alloc ?_ _)); exact IT248.out) hk); replace IT248 := Aside0.mk (hbox); replace HB := Aside0.mk (below_turned bw GE248.out hk); clear hbox hk; have p8 : 0 ≤ (x249000_1 : Int) := of_decide_eq_true asm; have q8 : x249000_1 < (a0.size : Int) := of_decide_eq_true asm; have hx8 := bt_at a0 x249000_1; replace p8 := eq_true p8; replace q8 := eq_true q8; have p10 : 0 ≤ (x249000_1 : Int) := of_decide_eq_true asm; have q10 : x249000_1 < (a1.size : Int) := of_decide_eq_true asm; have hx10 := bt_at a1 x249000_1; replace p10 := eq_true p10; replace q10 := eq_true q10; have p14 : 0 ≤ ((ji12) : Int) := of_decide_eq_true asm; have q14 : (ji12) < (a0.size : Int) := of_decide_eq_true asm; have hx14 := bt_at a0 (ji12); replace p14 := eq_true p14; replace q14 := eq_true q14; have p16 : 0 ≤ ((ji12) : Int) := of_decide_eq_true asm; have q16 : (ji12) < (a1.size : Int) := of_decide_eq_true asm; have hx16 := bt_at a1 (ji12); replace p16 := eq_true p16; replace q16 := eq_true q16))); (try go_quiet (fail)))
            go_roundg k1
            case measure => have := HK1.out; omega
            case rel => exact ⟨(x5_1), (x249000_1 + 1), H', ⟨by have := HK1.out; omega⟩, ⟨pr HO_5⟩, ⟨by (with_reducible repeat (first | refine blk_drewN ?_ _ | refine blk_drew ?_ | refine blk_alloc ?_ _)); exact IT248.out⟩, ⟨bw⟩⟩
          ·rw [if_neg c15] at H
           exact absurd H (by simp)
         ·rw [if_neg c13] at H
          exact absurd H (by simp)
        ·rw [if_neg c11] at H
         have c11b0 : decide ((wrap64 (x249000_1 + 1)) < (a0.size : Int)) = false := decide_eq_false c11
         clear c11
         by_cases c22 : (((bt a0 x249000_1) != (bt a1 x249000_1)) != false) = true
         ·rw [if_pos c22] at H
          have c22b0 : (((bt a0 x249000_1) != (bt a1 x249000_1)) != false) = true := c22
          (try (have c22b1 : decide (((bt a0 x249000_1) != (bt a1 x249000_1)) = false) = false := by simpa using c22))
          (try (have c22b2 : (((bt a0 x249000_1) != (bt a1 x249000_1)) == false) = false := by simpa using c22))
          (try (have c22b3 : ¬ (((bt a0 x249000_1) != (bt a1 x249000_1)) = false) := by simpa using c22))
          clear c22
          by_cases c23 : x5_1.length < 17592186044416
          ·rw [if_pos c23] at H
           have LMc23 := Aside0.mk c23
           clear c23
           obtain ⟨y252, hy252⟩ : ∃ y_ : List Int, y_ = (x5_1 ++ [wrap64 (x249000_1 + 1)]) := ⟨_, rfl⟩
           replace H : (spec_odFirsts.l0 k1 a0 a1 y252 (x249000_1 + 1) a0) = some r := by first | (rw [hy252]; with_reducible exact H) | (have H2_ := (Option.bind_some _ _).symm.trans H; rw [hy252]; with_reducible exact H2_) | (have H2_ := (Option.bind_some _ _).symm.trans H; with_reducible exact H2_) | with_reducible exact H | (rw [hy252]; exact H) | exact H
           have Ny252 := Aside0.mk hy252
           clear hy252
           have H' := Aside0.mk H
           clear H
           iterate 4 ((try go_wp2_with (first | ((with_reducible refine gate_dst (N := 11) rfl ?_); refine next_event ?hg (N := 11) ?hd (g := gb248) (s := a0) (p := x249000_1) ?hx ?hb ?h0 ?h1 ?h2 ?_; (case hd => rfl); (case hg => rfl); (case hx => exact ⟨_, rfl, by first | rfl | (go_simp; done) | (go_simp; rfl)⟩); (case hb => exact (by (with_reducible repeat (first | refine blk_drewN ?_ _ | refine blk_drew ?_ | refine blk_alloc ?_ _)); exact IT248.out)); (case h0 => first | (with_reducible decide) | exact of_decide_eq_true asm); (case h1 => exact of_decide_eq_true asm); (case h2 => exact of_decide_eq_true asm); intro w24 hbox hk; replace HO_5 := Aside0.mk (Kd.R_turned (pr HO_5) (by (with_reducible repeat (first | refine blk_drewN ?_ _ | refine blk_drew ?_ | refine blk_alloc ?_ _)); exact IT248.out) hk); replace IT248 := Aside0.mk (hbox); replace HB := Aside0.mk (below_turned bw GE248.out hk); clear hbox hk; have p8 : 0 ≤ (x249000_1 : Int) := of_decide_eq_true asm; have q8 : x249000_1 < (a0.size : Int) := of_decide_eq_true asm; have hx8 := bt_at a0 x249000_1; replace p8 := eq_true p8; replace q8 := eq_true q8; have p10 : 0 ≤ (x249000_1 : Int) := of_decide_eq_true asm; have q10 : x249000_1 < (a1.size : Int) := of_decide_eq_true asm; have hx10 := bt_at a1 x249000_1; replace p10 := eq_true p10; replace q10 := eq_true q10) | ((with_reducible refine gate_builtin (b := .append) (xs := #[.tmp 40, .tmp 43]) rfl ?_); at_builtin; refine Kd.R_append (Kd.int .i64) (w0 := w) w.heap.size rfl (.tmp 40) (.tmp 43) 31 3 (.int .i64 0) 8 rfl Tryd.underlying31 info3 rfl (by decide) (by omega) u5 x5_1 (wrap64 (x249000_1 + 1)) [.int .i64 (wrap64 (x249000_1 + 1))] (fun _ => True) (fun _ => False) rfl rfl ?aP (fun _ hk => hk.elim) ?aF ?aO ?aB ?aS ?aL ?_; (case aP => exact rfl); (case aB => exact bw); (case aF => exact (fun _ _ => trivial)); (case aO => exact (pr HO_5)); (case aS => exact (below_size bw)); (case aL => have := LMc23.out; omega); intro v253 w25 ho hb hg hat; rw [← Ny252.out] at ho; have n0_ := Aside0.mk (blk_grown (g := gb248) (o := .stringIter a0 (x249000_1 + 1 : Int).toNat) (by (with_reducible repeat (first | refine blk_drewN ?_ _ | refine blk_drew ?_ | refine blk_alloc ?_ _)); exact IT248.out) hg (Kd.R_nei HO_5.out IT248.out)); have n1_ := Aside0.mk (hb); have n2_ := Aside0.mk (ho); clear IT248; clear HB; clear HO_5; have IT248 := n0_; have HB := n1_; have HO254 := n2_; clear n0_ n1_ n2_; clear ho hb hg hat))); (try go_quiet (fail)))
           go_roundg k1
           case measure => have := HK1.out; omega
           case rel => exact ⟨(y252), (x249000_1 + 1), H', ⟨by have := HK1.out; omega⟩, ⟨pr HO254⟩, ⟨by (with_reducible repeat (first | refine blk_drewN ?_ _ | refine blk_drew ?_ | refine blk_alloc ?_ _)); exact IT248.out⟩, ⟨bw⟩⟩
          ·rw [if_neg c23] at H
           exact absurd H (by simp)
         ·rw [if_neg c22] at H
          have c22b0 : (((bt a0 x249000_1) != (bt a1 x249000_1)) != false) = false := by simpa using c22
          (try (have c22b1 : decide (((bt a0 x249000_1) != (bt a1 x249000_1)) = false) = true := by simpa using c22))
          (try (have c22b2 : (((bt a0 x249000_1) != (bt a1 x249000_1)) == false) = true := by simpa using c22))
          clear c22
          have H' := Aside0.mk H
          clear H
          iterate 4 ((try go_wp2_with (first | ((with_reducible refine gate_dst (N := 11) rfl ?_); refine next_event ?hg (N := 11) ?hd (g := gb248) (s := a0) (p := x249000_1) ?hx ?hb ?h0 ?h1 ?h2 ?_; (case hd => rfl); (case hg => rfl); (case hx => exact ⟨_, rfl, by first | rfl | (go_simp; done) | (go_simp; rfl)⟩); (case hb => exact (by (with_reducible repeat (first | refine blk_drewN ?_ _ | refine blk_drew ?_ | refine blk_alloc ?_ _)); exact IT248.out)); (case h0 => first | (with_reducible decide) | exact of_decide_eq_true asm); (case h1 => exact of_decide_eq_true asm); (case h2 => exact of_decide_eq_true asm); intro w26 hbox hk; replace HO_5 := Aside0.mk (Kd.R_turned (pr HO_5) (by (with_reducible repeat (first | refine blk_drewN ?_ _ | refine blk_drew ?_ | refine blk_alloc ?_ _)); exact IT248.out) hk); replace IT248 := Aside0.mk (hbox); replace HB := Aside0.mk (below_turned bw GE248.out hk); clear hbox hk; have p8 : 0 ≤ (x249000_1 : Int) := of_decide_eq_true asm; have q8 : x249000_1 < (a0.size : Int) := of_decide_eq_true asm; have hx8 := bt_at a0 x249000_1; replace p8 := eq_true p8; replace q8 := eq_true q8; have p10 : 0 ≤ (x249000_1 : Int) := of_decide_eq_true asm; have q10 : x249000_1 < (a1.size : Int) := of_decide_eq_true asm; have hx10 := bt_at a1 x249000_1; replace p10 := eq_true p10; replace q10 := eq_true q10))); (try go_quiet (fail)))
          go_roundg k1
          case measure => have := HK1.out; omega
          case rel => exact ⟨(x5_1), (x249000_1 + 1), H', ⟨by have := HK1.out; omega⟩, ⟨pr HO_5⟩, ⟨by (with_reducible repeat (first | refine blk_drewN ?_ _ | refine blk_drew ?_ | refine blk_alloc ?_ _)); exact IT248.out⟩, ⟨bw⟩⟩
       ·rw [if_neg c9] at H
        exact absurd H (by simp)
      ·rw [if_neg c7] at H
       exact absurd H (by simp)
     ·rw [if_neg c6] at H
      exact absurd H (by simp)
    ·rw [if_neg c5] at H
     exact absurd H (by simp)
   ·rw [if_neg c4] at H
    have c4b0 : decide (x249000_1 < (a0.size : Int)) = false := decide_eq_false c4
    clear c4
    obtain rfl := Option.some.inj H
    iterate 4 ((try go_wp2_with (first | ((with_reducible refine gate_dst (N := 11) rfl ?_); refine next_end_event ?hg (N := 11) ?hd (g := gb248) (s := a0) (p := x249000_1) ?hx ?hb ?h1 ?_; (case hd => rfl); (case hg => rfl); (case hx => exact ⟨_, rfl, by first | rfl | (go_simp; done) | (go_simp; rfl)⟩); (case hb => exact (by (with_reducible repeat (first | refine blk_drewN ?_ _ | refine blk_drew ?_ | refine blk_alloc ?_ _)); exact IT248.out)); (case h1 => exact of_decide_eq_false asm)))); (try go_quiet (fail)))
    go_ret
    exact ⟨_, rs, pr HO_5, bw⟩

/-! ### spec_FirstsTo: function 11 -/
def spec_FirstsTo.f (k : Nat) (a0 : ByteArray) (a1 : ByteArray) : Option (List Int × Bool) := (spec_odTwo.f k a0 a1).bind fun t255 => (if t255 = true then ((spec_odFirsts.f k a0 a1).bind fun t256 => (some (t256, true))) else (some (([] : List Int), false)))
theorem spec_FirstsTo.mono : ∀ a0 a1 k, LeO (spec_FirstsTo.f k a0 a1) (spec_FirstsTo.f (k + 1) a0 a1) := by
  intro a0 a1 k
  unfold spec_FirstsTo.f
  repeat' first
      | (with_reducible exact spec_odFirsts.mono _ _ _)
      | (with_reducible exact spec_odTwo.mono _ _ _)
      | (with_reducible exact LeO.refl _)
      | (with_reducible exact LeO.none _)
      | (with_reducible refine LeO.ite ?_ ?_)
      | (with_reducible refine LeO.bind ?_ (fun _ => ?_))
      | exact spec_odFirsts.mono _ _ _
      | exact spec_odTwo.mono _ _ _
      | exact LeO.none _
      | refine LeO.ite ?_ ?_
      | refine LeO.bind ?_ (fun _ => ?_)
set_option maxHeartbeats 8000000 in
set_option maxRecDepth 100000 in
theorem spec_FirstsTo.calls (k : Nat) (a0 : ByteArray) (a1 : ByteArray) (r1 : List Int) (r2 : Bool) (w : World) (h : spec_FirstsTo.f k a0 a1 = some (r1, r2)) :
  Calls Tryd.prog 11 #[.string a0, .string a1] w fun e w' => ∃ v0_ : Value, e = .returned (.tuple #[v0_, .bool r2]) ∧ Kd.R (Kd.int .i64) 3 w' w.heap.size (fun _ => True) v0_ r1 ∧ Below w.heap.size w w' := by
 have HB := Aside0.mk (Below.refl w.heap.size w)
 unfold spec_FirstsTo.f at h
 have H := h
 clear h
 replace H := Option.bind_eq_some_iff.mp H
 obtain ⟨t255, A30, H⟩ := H
 (try dsimp only at H)
 have A3 := Aside0.mk A30
 clear A30
 by_cases c4 : t255 = true
 ·subst c4
  rw [if_pos rfl] at H
  replace H := Option.bind_eq_some_iff.mp H
  obtain ⟨t256, A50, H⟩ := H
  (try dsimp only at H)
  have A5 := Aside0.mk A50
  clear A50
  simp only [Option.some.injEq, Prod.mk.injEq] at H
  obtain ⟨rfl, rfl⟩ := H
  go_enter Tryd.func11, Tryd.ntmps11
  go_wp2_with (first | ((with_reducible refine gate_callee (f := 35) rfl ?_); refine gl (some 8) Tryd.func35 #[.string a0, .string a1] ?_; (with_reducible refine (spec_odTwo.calls k a0 a1 true _ A3.out).mono ?_); rintro e w' ⟨rfl, ⟨nd, rfl⟩⟩; refine ⟨_, rfl, ?_⟩) | ((with_reducible refine gate_callee (f := 37) rfl ?_); refine gl (some 12) Tryd.func37 #[.string a0, .string a1] ?_; (with_reducible refine (spec_odFirsts.calls k a0 a1 t256 _ A5.out).mono ?_); rintro e w6 ⟨v257, rfl, ho0, hb⟩; refine ⟨_, rfl, ?_⟩; have HO258 := Aside0.mk (Kd.R_lower ho0 (below_size bw)); replace HB := bs hb; (try clear hb); (try clear ho0)))
  go_ret2
  exact ⟨_, rs, pr HO258, bw⟩
 ·replace c4 := Bool.eq_false_iff.mpr c4
  subst c4
  rw [if_neg (show ¬ (false = true) by decide)] at H
  simp only [Option.some.injEq, Prod.mk.injEq] at H
  obtain ⟨rfl, rfl⟩ := H
  go_enter Tryd.func11, Tryd.ntmps11
  go_wp2_with (first | ((with_reducible refine gate_callee (f := 35) rfl ?_); refine gl (some 8) Tryd.func35 #[.string a0, .string a1] ?_; (with_reducible refine (spec_odTwo.calls k a0 a1 false _ A3.out).mono ?_); rintro e w' ⟨rfl, ⟨nd, rfl⟩⟩; refine ⟨_, rfl, ?_⟩))
  go_ret2
  exact ⟨_, rs, by first | exact Kd.R_nil _ _ _ _ _ | exact Kd.N_nil _ _ _ _ _ | exact Kd.V_nil _ _ _ _ _ | exact Kd.Q_nil _ _ _ _ _ | exact Kd.S_nil _ _ _ _ _, bw⟩

/-! ### impl_FewestFirst: function 12 -/
def impl_FewestFirst.f (k : Nat) (a0 : ByteArray) (a1 : ByteArray) : Option (Int × Bool) := (impl_FirstsTo.f k a0 a1).bind fun bt259 => (some ((bt259.1.length : Int), bt259.2))
theorem impl_FewestFirst.mono : ∀ a0 a1 k, LeO (impl_FewestFirst.f k a0 a1) (impl_FewestFirst.f (k + 1) a0 a1) := by
  intro a0 a1 k
  unfold impl_FewestFirst.f
  repeat' first
      | (with_reducible exact impl_FirstsTo.mono _ _ _)
      | (with_reducible exact LeO.refl _)
      | (with_reducible exact LeO.none _)
      | (with_reducible refine LeO.ite ?_ ?_)
      | (with_reducible refine LeO.bind ?_ (fun _ => ?_))
      | exact impl_FirstsTo.mono _ _ _
      | exact LeO.none _
      | refine LeO.ite ?_ ?_
      | refine LeO.bind ?_ (fun _ => ?_)
set_option maxHeartbeats 8000000 in
set_option maxRecDepth 100000 in
theorem impl_FewestFirst.calls (k : Nat) (a0 : ByteArray) (a1 : ByteArray) (r1 : Int) (r2 : Bool) (w : World) (h : impl_FewestFirst.f k a0 a1 = some (r1, r2)) :
  Calls Tryd.prog 12 #[.string a0, .string a1] w fun e w' => e = .returned (.tuple #[.int .i64 r1, .bool r2]) ∧ Below w.heap.size w w' := by
 have HB := Aside0.mk (Below.refl w.heap.size w)
 unfold impl_FewestFirst.f at h
 have H := h
 clear h
 replace H := Option.bind_eq_some_iff.mp H
 obtain ⟨⟨t259, t260⟩, A30, H⟩ := H
 (try dsimp only at H)
 have A3 := Aside0.mk A30
 clear A30
 simp only [Option.some.injEq, Prod.mk.injEq] at H
 obtain ⟨rfl, rfl⟩ := H
 go_enter Tryd.func12, Tryd.ntmps12
 go_wp2_with (first | ((with_reducible refine gate_callee (f := 10) rfl ?_); refine gl (some 11) Tryd.func10 #[.string a0, .string a1] ?_; (with_reducible refine (impl_FirstsTo.calls k a0 a1 t259 t260 _ A3.out).mono ?_); rintro e w4 ⟨v261, rfl, ho0, hb⟩; refine ⟨_, rfl, ?_⟩; have HO262 := Aside0.mk (Kd.R_lower ho0 (below_size bw)); replace HB := bs hb; (try clear hb); (try clear ho0); obtain ⟨Ao5, co5, eo5⟩ := Kd.R_slice HO262.out; subst eo5))
 go_ret2
 exact ⟨rs, bw⟩

/-! ### spec_FewestFirst: function 13 -/
def spec_FewestFirst.f (k : Nat) (a0 : ByteArray) (a1 : ByteArray) : Option (Int × Bool) := (spec_odTwo.f k a0 a1).bind fun t263 => (if t263 = true then ((spec_odFirsts.f k a0 a1).bind fun t264 => (some ((t264.length : Int), true))) else (some (0, false)))
theorem spec_FewestFirst.mono : ∀ a0 a1 k, LeO (spec_FewestFirst.f k a0 a1) (spec_FewestFirst.f (k + 1) a0 a1) := by
  intro a0 a1 k
  unfold spec_FewestFirst.f
  repeat' first
      | (with_reducible exact spec_odFirsts.mono _ _ _)
      | (with_reducible exact spec_odTwo.mono _ _ _)
      | (with_reducible exact LeO.refl _)
      | (with_reducible exact LeO.none _)
      | (with_reducible refine LeO.ite ?_ ?_)
      | (with_reducible refine LeO.bind ?_ (fun _ => ?_))
      | exact spec_odFirsts.mono _ _ _
      | exact spec_odTwo.mono _ _ _
      | exact LeO.none _
      | refine LeO.ite ?_ ?_
      | refine LeO.bind ?_ (fun _ => ?_)
set_option maxHeartbeats 8000000 in
set_option maxRecDepth 100000 in
theorem spec_FewestFirst.calls (k : Nat) (a0 : ByteArray) (a1 : ByteArray) (r1 : Int) (r2 : Bool) (w : World) (h : spec_FewestFirst.f k a0 a1 = some (r1, r2)) :
  Calls Tryd.prog 13 #[.string a0, .string a1] w fun e w' => e = .returned (.tuple #[.int .i64 r1, .bool r2]) ∧ Below w.heap.size w w' := by
 have HB := Aside0.mk (Below.refl w.heap.size w)
 unfold spec_FewestFirst.f at h
 have H := h
 clear h
 replace H := Option.bind_eq_some_iff.mp H
 obtain ⟨t263, A30, H⟩ := H
 (try dsimp only at H)
 have A3 := Aside0.mk A30
 clear A30
 by_cases c4 : t263 = true
 ·subst c4
  rw [if_pos rfl] at H
  replace H := Option.bind_eq_some_iff.mp H
  obtain ⟨t264, A50, H⟩ := H
  (try dsimp only at H)
  have A5 := Aside0.mk A50
  clear A50
  simp only [Option.some.injEq, Prod.mk.injEq] at H
  obtain ⟨rfl, rfl⟩ := H
  go_enter Tryd.func13, Tryd.ntmps13
  go_wp2_with (first | ((with_reducible refine gate_callee (f := 35) rfl ?_); refine gl (some 8) Tryd.func35 #[.string a0, .string a1] ?_; (with_reducible refine (spec_odTwo.calls k a0 a1 true _ A3.out).mono ?_); rintro e w' ⟨rfl, ⟨nd, rfl⟩⟩; refine ⟨_, rfl, ?_⟩) | ((with_reducible refine gate_callee (f := 37) rfl ?_); refine gl (some 12) Tryd.func37 #[.string a0, .string a1] ?_; (with_reducible refine (spec_odFirsts.calls k a0 a1 t264 _ A5.out).mono ?_); rintro e w6 ⟨v265, rfl, ho0, hb⟩; refine ⟨_, rfl, ?_⟩; have HO266 := Aside0.mk (Kd.R_lower ho0 (below_size bw)); replace HB := bs hb; (try clear hb); (try clear ho0); obtain ⟨Ao7, co7, eo7⟩ := Kd.R_slice HO266.out; subst eo7))
  go_ret2
  exact ⟨rs, bw⟩
 ·replace c4 := Bool.eq_false_iff.mpr c4
  subst c4
  rw [if_neg (show ¬ (false = true) by decide)] at H
  simp only [Option.some.injEq, Prod.mk.injEq] at H
  obtain ⟨rfl, rfl⟩ := H
  go_enter Tryd.func13, Tryd.ntmps13
  go_wp2_with (first | ((with_reducible refine gate_callee (f := 35) rfl ?_); refine gl (some 8) Tryd.func35 #[.string a0, .string a1] ?_; (with_reducible refine (spec_odTwo.calls k a0 a1 false _ A3.out).mono ?_); rintro e w' ⟨rfl, ⟨nd, rfl⟩⟩; refine ⟨_, rfl, ?_⟩))
  go_ret2
  exact ⟨rs, bw⟩

/-! ### laws_mSame: function 15 -/
def laws_mSame.l0 : Nat → List Int → List Int → Int → Int → Option (Bool)
  | 0, _, _, _, _ => none
  | k + 1, x0, x1, x12, x13 => if x13 < x12 then (if 0 ≤ x13 then (if x13 < (x0.length : Int) then (if x13 < (x1.length : Int) then (if (rd x0 x13) = (rd x1 x13) then (laws_mSame.l0 k x0 x1 x12 (wrap64 (x13 + 1))) else (some false)) else (none)) else (none)) else (none)) else (some true)
def laws_mSame.f (k : Nat) (l0 : List Int) (l1 : List Int) : Option (Bool) := if (l0.length : Int) = (l1.length : Int) then (laws_mSame.l0 k l0 l1 (l0.length : Int) 0) else (some false)
theorem laws_mSame.mono_l : ∀ k, (∀ y0 y1 y2 y3, LeO (laws_mSame.l0 k y0 y1 y2 y3) (laws_mSame.l0 (k + 1) y0 y1 y2 y3))
  | 0 => fun _ _ _ _ r h => by simp [laws_mSame.l0] at h
  | k + 1 => by
    have ih0 := laws_mSame.mono_l k
    · intro y0 y1 y2 y3
      unfold laws_mSame.l0
      repeat' first
      | (with_reducible exact ih0 _ _ _ _)
      | (with_reducible exact LeO.refl _)
      | (with_reducible exact LeO.none _)
      | (with_reducible refine LeO.ite ?_ ?_)
      | (with_reducible refine LeO.bind ?_ (fun _ => ?_))
      | exact ih0 _ _ _ _
      | exact LeO.none _
      | refine LeO.ite ?_ ?_
      | refine LeO.bind ?_ (fun _ => ?_)
theorem laws_mSame.mono : ∀ a0 a1 k, LeO (laws_mSame.f k a0 a1) (laws_mSame.f (k + 1) a0 a1) := by
  intro a0 a1 k
  have ih0 := laws_mSame.mono_l k
  unfold laws_mSame.f
  repeat' first
      | (with_reducible exact ih0 _ _ _ _)
      | (with_reducible exact LeO.refl _)
      | (with_reducible exact LeO.none _)
      | (with_reducible refine LeO.ite ?_ ?_)
      | (with_reducible refine LeO.bind ?_ (fun _ => ?_))
      | exact ih0 _ _ _ _
      | exact LeO.none _
      | refine LeO.ite ?_ ?_
      | refine LeO.bind ?_ (fun _ => ?_)
set_option maxHeartbeats 8000000 in
set_option maxRecDepth 100000 in
theorem laws_mSame.calls (k : Nat) (A0 : Option Addr) (c0 : Nat) (l0 : List Int) (A1 : Option Addr) (c1 : Nat) (l1 : List Int) (r : Bool) (w : World) (hr0 : Kd.C (Kd.int .i64) w A0 l0.length l0) (hc0 : l0.length ≤ c0) (hr1 : Kd.C (Kd.int .i64) w A1 l1.length l1) (hc1 : l1.length ≤ c1) (h : laws_mSame.f k l0 l1 = some r) :
  Calls Tryd.prog 15 #[.slice A0 l0.length c0, .slice A1 l1.length c1] w fun e w' => e = .returned (.bool r) ∧ Drawn0 w w' := by
 have HR0 := Aside0.mk hr0
 have HC0 := Aside0.mk hc0
 clear hr0 hc0
 have HR1 := Aside0.mk hr1
 have HC1 := Aside0.mk hc1
 clear hr1 hc1
 unfold laws_mSame.f at h
 have H := h
 clear h
 by_cases c3 : (l0.length : Int) = (l1.length : Int)
 ·rw [if_pos c3] at H
  have c3b0 : ((l0.length : Int) == (l1.length : Int)) = true := beq_iff_eq.mpr c3
  have c3b1 : ((l0.length : Int) != (l1.length : Int)) = false := bne_eq_false_iff_eq.mpr c3
  have c3b2 : (l0.length == l1.length) = true := by first | simpa using c3 | (simp at c3 ⊢; omega)
  clear c3
  have H' := Aside0.mk H
  clear H
  go_enter Tryd.func15, Tryd.ntmps15
  go_wp2
  repeat (go_quiet (fail); try go_wp2)
  go_loopg [13] k (fun kq v13 w' => ∃ (x13_1 : Int), v13 = .int .i64 x13_1 ∧ Aside0 (laws_mSame.l0 kq l0 l1 (l0.length : Int) x13_1 = some r) ∧ Aside0 (kq ≤ k) ∧ Drawn0 w w')
  case atStart => exact ⟨(0), (rs), H', ⟨Nat.le_refl _⟩, by repeat (first | exact Drawn0.refl _ | apply Drawn0.step)⟩
  case round =>
   clear H'
   try clear c1
   try clear p2
   try clear c3
   try clear c3b0
   try clear c3b1
   try clear c3b2
   obtain ⟨x13_1, rfl, HA, HK1, ⟨m1, rfl⟩⟩ := hrel
   cases gk with
   | zero => exact absurd HA.out (by simp [laws_mSame.l0])
   | succ k1 =>
    have H := HA.out
    clear HA
    simp only [laws_mSame.l0] at H
    by_cases c4 : x13_1 < (l0.length : Int)
    ·rw [if_pos c4] at H
     have c4b0 : decide (x13_1 < (l0.length : Int)) = true := decide_eq_true c4
     clear c4
     by_cases c5 : 0 ≤ x13_1
     ·rw [if_pos c5] at H
      have c5b0 : decide (0 ≤ x13_1) = true := decide_eq_true c5
      clear c5
      by_cases c6 : x13_1 < (l0.length : Int)
      ·rw [if_pos c6] at H
       have c6b0 : decide (x13_1 < (l0.length : Int)) = true := decide_eq_true c6
       clear c6
       by_cases c7 : x13_1 < (l1.length : Int)
       ·rw [if_pos c7] at H
        have c7b0 : decide (x13_1 < (l1.length : Int)) = true := decide_eq_true c7
        clear c7
        by_cases c8 : (rd l0 x13_1) = (rd l1 x13_1)
        ·rw [if_pos c8] at H
         have c8b0 : ((rd l0 x13_1) == (rd l1 x13_1)) = true := beq_iff_eq.mpr c8
         have c8b1 : ((rd l0 x13_1) != (rd l1 x13_1)) = false := bne_eq_false_iff_eq.mpr c8
         clear c8
         have H' := Aside0.mk H
         clear H
         have p267 : 0 ≤ (x13_1 : Int) := of_decide_eq_true asm
         have q267 : x13_1 < (l0.length : Int) := of_decide_eq_true asm
         obtain ⟨ad267, e267, hx267_0⟩ := Kd.at_int HR0.out x13_1 p267 q267
         cases e267
         replace p267 := eq_true p267
         replace q267 := eq_true q267
         have p268 : 0 ≤ (x13_1 : Int) := of_decide_eq_true asm
         have q268 : x13_1 < (l1.length : Int) := of_decide_eq_true asm
         obtain ⟨ad268, e268, hx268_0⟩ := Kd.at_int HR1.out x13_1 p268 q268
         cases e268
         replace p268 := eq_true p268
         replace q268 := eq_true q268
         go_wp2
         repeat (go_quiet (fail); try go_wp2)
         go_roundg k1
         case measure => have := HK1.out; omega
         case rel => exact ⟨(wrap64 (x13_1 + 1)), (rs), H', ⟨by have := HK1.out; omega⟩, by repeat (first | exact Drawn0.refl _ | apply Drawn0.step)⟩
        ·rw [if_neg c8] at H
         have c8b0 : ((rd l0 x13_1) == (rd l1 x13_1)) = false := beq_eq_false_iff_ne.mpr c8
         have c8b1 : ((rd l0 x13_1) != (rd l1 x13_1)) = true := bne_iff_ne.mpr c8
         obtain rfl := Option.some.inj H
         have p267 : 0 ≤ (x13_1 : Int) := of_decide_eq_true asm
         have q267 : x13_1 < (l0.length : Int) := of_decide_eq_true asm
         obtain ⟨ad267, e267, hx267_0⟩ := Kd.at_int HR0.out x13_1 p267 q267
         cases e267
         replace p267 := eq_true p267
         replace q267 := eq_true q267
         have p268 : 0 ≤ (x13_1 : Int) := of_decide_eq_true asm
         have q268 : x13_1 < (l1.length : Int) := of_decide_eq_true asm
         obtain ⟨ad268, e268, hx268_0⟩ := Kd.at_int HR1.out x13_1 p268 q268
         cases e268
         replace p268 := eq_true p268
         replace q268 := eq_true q268
         go_wp2
         repeat (go_quiet (fail); try go_wp2)
         go_ret
         exact ⟨rs, by repeat (first | exact Drawn0.refl _ | apply Drawn0.step)⟩
       ·rw [if_neg c7] at H
        exact absurd H (by simp)
      ·rw [if_neg c6] at H
       exact absurd H (by simp)
     ·rw [if_neg c5] at H
      exact absurd H (by simp)
    ·rw [if_neg c4] at H
     have c4b0 : decide (x13_1 < (l0.length : Int)) = false := decide_eq_false c4
     clear c4
     obtain rfl := Option.some.inj H
     go_wp2
     repeat (go_quiet (fail); try go_wp2)
     go_ret
     exact ⟨rs, by repeat (first | exact Drawn0.refl _ | apply Drawn0.step)⟩
 ·rw [if_neg c3] at H
  have c3b0 : ((l0.length : Int) == (l1.length : Int)) = false := beq_eq_false_iff_ne.mpr c3
  have c3b1 : ((l0.length : Int) != (l1.length : Int)) = true := bne_iff_ne.mpr c3
  have c3b2 : (l0.length == l1.length) = false := by first | simpa using c3 | (simp at c3 ⊢; omega)
  obtain rfl := Option.some.inj H
  go_enter Tryd.func15, Tryd.ntmps15
  go_wp2
  repeat (go_quiet (fail); try go_wp2)
  go_ret
  exact ⟨rs, by repeat (first | exact Drawn0.refl _ | apply Drawn0.step)⟩

/-! ### laws_mRows: function 14 -/
def laws_mRows.l0 : Nat → List (List Int) → List (List Int) → Int → Int → Option (Bool)
  | 0, _, _, _, _ => none
  | k + 1, x0, x1, x12, x13 => if x13 < x12 then (if 0 ≤ x13 then (if x13 < (x0.length : Int) then (if x13 < (x1.length : Int) then ((laws_mSame.f k (rd_L3 x0 x13) (rd_L3 x1 x13)).bind fun t271 => (if t271 = true then (laws_mRows.l0 k x0 x1 x12 (wrap64 (x13 + 1))) else (some false))) else (none)) else (none)) else (none)) else (some true)
def laws_mRows.f (k : Nat) (l0 : List (List Int)) (l1 : List (List Int)) : Option (Bool) := if (l0.length : Int) = (l1.length : Int) then (laws_mRows.l0 k l0 l1 (l0.length : Int) 0) else (some false)
theorem laws_mRows.mono_l : ∀ k, (∀ y0 y1 y2 y3, LeO (laws_mRows.l0 k y0 y1 y2 y3) (laws_mRows.l0 (k + 1) y0 y1 y2 y3))
  | 0 => fun _ _ _ _ r h => by simp [laws_mRows.l0] at h
  | k + 1 => by
    have ih0 := laws_mRows.mono_l k
    · intro y0 y1 y2 y3
      unfold laws_mRows.l0
      repeat' first
      | (with_reducible exact ih0 _ _ _ _)
      | (with_reducible exact laws_mSame.mono _ _ _)
      | (with_reducible exact LeO.refl _)
      | (with_reducible exact LeO.none _)
      | (with_reducible refine LeO.ite ?_ ?_)
      | (with_reducible refine LeO.bind ?_ (fun _ => ?_))
      | exact ih0 _ _ _ _
      | exact laws_mSame.mono _ _ _
      | exact LeO.none _
      | refine LeO.ite ?_ ?_
      | refine LeO.bind ?_ (fun _ => ?_)
theorem laws_mRows.mono : ∀ a0 a1 k, LeO (laws_mRows.f k a0 a1) (laws_mRows.f (k + 1) a0 a1) := by
  intro a0 a1 k
  have ih0 := laws_mRows.mono_l k
  unfold laws_mRows.f
  repeat' first
      | (with_reducible exact ih0 _ _ _ _)
      | (with_reducible exact laws_mSame.mono _ _ _)
      | (with_reducible exact LeO.refl _)
      | (with_reducible exact LeO.none _)
      | (with_reducible refine LeO.ite ?_ ?_)
      | (with_reducible refine LeO.bind ?_ (fun _ => ?_))
      | exact ih0 _ _ _ _
      | exact laws_mSame.mono _ _ _
      | exact LeO.none _
      | refine LeO.ite ?_ ?_
      | refine LeO.bind ?_ (fun _ => ?_)
set_option maxHeartbeats 8000000 in
set_option maxRecDepth 100000 in
theorem laws_mRows.calls (k : Nat) (A0 : Option Addr) (c0 : Nat) (l0 : List (List Int)) (A1 : Option Addr) (c1 : Nat) (l1 : List (List Int)) (r : Bool) (w : World) (hr0 : Kd.C (Kd.slice 3 (Kd.int .i64)) w A0 l0.length l0) (hc0 : l0.length ≤ c0) (hr1 : Kd.C (Kd.slice 3 (Kd.int .i64)) w A1 l1.length l1) (hc1 : l1.length ≤ c1) (h : laws_mRows.f k l0 l1 = some r) :
  Calls Tryd.prog 14 #[.slice A0 l0.length c0, .slice A1 l1.length c1] w fun e w' => e = .returned (.bool r) ∧ Drawn0 w w' := by
 have HR0 := Aside0.mk hr0
 have HC0 := Aside0.mk hc0
 clear hr0 hc0
 have HR1 := Aside0.mk hr1
 have HC1 := Aside0.mk hc1
 clear hr1 hc1
 unfold laws_mRows.f at h
 have H := h
 clear h
 by_cases c3 : (l0.length : Int) = (l1.length : Int)
 ·rw [if_pos c3] at H
  have c3b0 : ((l0.length : Int) == (l1.length : Int)) = true := beq_iff_eq.mpr c3
  have c3b1 : ((l0.length : Int) != (l1.length : Int)) = false := bne_eq_false_iff_eq.mpr c3
  have c3b2 : (l0.length == l1.length) = true := by first | simpa using c3 | (simp at c3 ⊢; omega)
  clear c3
  have H' := Aside0.mk H
  clear H
  go_enter Tryd.func14, Tryd.ntmps14
  go_wp2
  repeat (go_quiet (fail); try go_wp2)
  go_loopg [13] k (fun kq v13 w' => ∃ (x13_1 : Int), v13 = .int .i64 x13_1 ∧ Aside0 (laws_mRows.l0 kq l0 l1 (l0.length : Int) x13_1 = some r) ∧ Aside0 (kq ≤ k) ∧ Drawn0 w w')
  case atStart => exact ⟨(0), (rs), H', ⟨Nat.le_refl _⟩, by repeat (first | exact Drawn0.refl _ | apply Drawn0.step)⟩
  case round =>
   clear H'
   try clear c1
   try clear p2
   try clear c3
   try clear c3b0
   try clear c3b1
   try clear c3b2
   obtain ⟨x13_1, rfl, HA, HK1, ⟨m1, rfl⟩⟩ := hrel
   cases gk with
   | zero => exact absurd HA.out (by simp [laws_mRows.l0])
   | succ k1 =>
    have H := HA.out
    clear HA
    simp only [laws_mRows.l0] at H
    by_cases c4 : x13_1 < (l0.length : Int)
    ·rw [if_pos c4] at H
     have c4b0 : decide (x13_1 < (l0.length : Int)) = true := decide_eq_true c4
     clear c4
     by_cases c5 : 0 ≤ x13_1
     ·rw [if_pos c5] at H
      have c5b0 : decide (0 ≤ x13_1) = true := decide_eq_true c5
      clear c5
      by_cases c6 : x13_1 < (l0.length : Int)
      ·rw [if_pos c6] at H
       have c6b0 : decide (x13_1 < (l0.length : Int)) = true := decide_eq_true c6
       clear c6
       by_cases c7 : x13_1 < (l1.length : Int)
       ·rw [if_pos c7] at H
        have c7b0 : decide (x13_1 < (l1.length : Int)) = true := decide_eq_true c7
        clear c7
        replace H := Option.bind_eq_some_iff.mp H
        obtain ⟨t271, A80, H⟩ := H
        (try dsimp only at H)
        have A8 := Aside0.mk A80
        clear A80
        by_cases c9 : t271 = true
        ·subst c9
         rw [if_pos rfl] at H
         have H' := Aside0.mk H
         clear H
         have p269 : 0 ≤ (x13_1 : Int) := of_decide_eq_true asm
         have q269 : x13_1 < (l0.length : Int) := of_decide_eq_true asm
         obtain ⟨ad269, A269_0, c269_0, e269, hx269_0, hl269_0, hi269_0⟩ := at_L3 HR0.out x13_1 p269 q269
         cases e269
         have HR269_0 := Aside0.mk hi269_0
         have HC269_0 := Aside0.mk hl269_0
         clear hi269_0 hl269_0
         replace p269 := eq_true p269
         replace q269 := eq_true q269
         have p270 : 0 ≤ (x13_1 : Int) := of_decide_eq_true asm
         have q270 : x13_1 < (l1.length : Int) := of_decide_eq_true asm
         obtain ⟨ad270, A270_0, c270_0, e270, hx270_0, hl270_0, hi270_0⟩ := at_L3 HR1.out x13_1 p270 q270
         cases e270
         have HR270_0 := Aside0.mk hi270_0
         have HC270_0 := Aside0.mk hl270_0
         clear hi270_0 hl270_0
         replace p270 := eq_true p270
         replace q270 := eq_true q270
         iterate 4 ((try go_wp2_with (first | (go_at_call 15; (with_reducible refine (laws_mSame.calls k1 _ _ (rd_L3 l0 x13_1) _ _ (rd_L3 l1 x13_1) true _ ?side1 ?side2 ?side3 ?side4 A8.out).mono ?_); (case side1 => exact cr HR269_0); (case side2 => exact HC269_0.out); (case side3 => exact cr HR270_0); (case side4 => exact HC270_0.out); rintro e w' ⟨rfl, ⟨nd, rfl⟩⟩; (try exact zz)))); (try go_quiet (first | (go_at_call 15; (with_reducible refine (laws_mSame.calls k1 _ _ (rd_L3 l0 x13_1) _ _ (rd_L3 l1 x13_1) true _ ?side1 ?side2 ?side3 ?side4 A8.out).mono ?_); (case side1 => exact cr HR269_0); (case side2 => exact HC269_0.out); (case side3 => exact cr HR270_0); (case side4 => exact HC270_0.out); rintro e w' ⟨rfl, ⟨nd, rfl⟩⟩; (try exact zz)))))
         go_roundg k1
         case measure => have := HK1.out; omega
         case rel => exact ⟨(wrap64 (x13_1 + 1)), (rs), H', ⟨by have := HK1.out; omega⟩, by repeat (first | exact Drawn0.refl _ | apply Drawn0.step)⟩
        ·replace c9 := Bool.eq_false_iff.mpr c9
         subst c9
         rw [if_neg (show ¬ (false = true) by decide)] at H
         obtain rfl := Option.some.inj H
         have p269 : 0 ≤ (x13_1 : Int) := of_decide_eq_true asm
         have q269 : x13_1 < (l0.length : Int) := of_decide_eq_true asm
         obtain ⟨ad269, A269_0, c269_0, e269, hx269_0, hl269_0, hi269_0⟩ := at_L3 HR0.out x13_1 p269 q269
         cases e269
         have HR269_0 := Aside0.mk hi269_0
         have HC269_0 := Aside0.mk hl269_0
         clear hi269_0 hl269_0
         replace p269 := eq_true p269
         replace q269 := eq_true q269
         have p270 : 0 ≤ (x13_1 : Int) := of_decide_eq_true asm
         have q270 : x13_1 < (l1.length : Int) := of_decide_eq_true asm
         obtain ⟨ad270, A270_0, c270_0, e270, hx270_0, hl270_0, hi270_0⟩ := at_L3 HR1.out x13_1 p270 q270
         cases e270
         have HR270_0 := Aside0.mk hi270_0
         have HC270_0 := Aside0.mk hl270_0
         clear hi270_0 hl270_0
         replace p270 := eq_true p270
         replace q270 := eq_true q270
         iterate 4 ((try go_wp2_with (first | (go_at_call 15; (with_reducible refine (laws_mSame.calls k1 _ _ (rd_L3 l0 x13_1) _ _ (rd_L3 l1 x13_1) false _ ?side1 ?side2 ?side3 ?side4 A8.out).mono ?_); (case side1 => exact cr HR269_0); (case side2 => exact HC269_0.out); (case side3 => exact cr HR270_0); (case side4 => exact HC270_0.out); rintro e w' ⟨rfl, ⟨nd, rfl⟩⟩; (try exact zz)))); (try go_quiet (first | (go_at_call 15; (with_reducible refine (laws_mSame.calls k1 _ _ (rd_L3 l0 x13_1) _ _ (rd_L3 l1 x13_1) false _ ?side1 ?side2 ?side3 ?side4 A8.out).mono ?_); (case side1 => exact cr HR269_0); (case side2 => exact HC269_0.out); (case side3 => exact cr HR270_0); (case side4 => exact HC270_0.out); rintro e w' ⟨rfl, ⟨nd, rfl⟩⟩; (try exact zz)))))
         go_ret
         exact ⟨rs, by repeat (first | exact Drawn0.refl _ | apply Drawn0.step)⟩
       ·rw [if_neg c7] at H
        exact absurd H (by simp)
      ·rw [if_neg c6] at H
       exact absurd H (by simp)
     ·rw [if_neg c5] at H
      exact absurd H (by simp)
    ·rw [if_neg c4] at H
     have c4b0 : decide (x13_1 < (l0.length : Int)) = false := decide_eq_false c4
     clear c4
     obtain rfl := Option.some.inj H
     go_wp2
     repeat (go_quiet (fail); try go_wp2)
     go_ret
     exact ⟨rs, by repeat (first | exact Drawn0.refl _ | apply Drawn0.step)⟩
 ·rw [if_neg c3] at H
  have c3b0 : ((l0.length : Int) == (l1.length : Int)) = false := beq_eq_false_iff_ne.mpr c3
  have c3b1 : ((l0.length : Int) != (l1.length : Int)) = true := bne_iff_ne.mpr c3
  have c3b2 : (l0.length == l1.length) = false := by first | simpa using c3 | (simp at c3 ⊢; omega)
  obtain rfl := Option.some.inj H
  go_enter Tryd.func14, Tryd.ntmps14
  go_wp2
  repeat (go_quiet (fail); try go_wp2)
  go_ret
  exact ⟨rs, by repeat (first | exact Drawn0.refl _ | apply Drawn0.step)⟩

/-! ### impl_isRun: function 39 -/
def impl_isRun.f (a0 : ByteArray) (a1 : Int) (a2 : Int) : Option (Bool) := (impl_in.f a1 0 (wrap64 ((a0.size : Int) - 1))).bind fun t272 => (if t272 = true then ((impl_in.f a2 a1 (wrap64 ((a0.size : Int) - 1))).bind fun t273 => (some t273)) else (some false))
set_option maxHeartbeats 8000000 in
set_option maxRecDepth 100000 in
theorem impl_isRun.calls (a0 : ByteArray) (a1 : Int) (a2 : Int) (r : Bool) (w : World) (h : impl_isRun.f a0 a1 a2 = some r) :
  Calls Tryd.prog 39 #[.string a0, .int .i64 a1, .int .i64 a2] w fun e w' => e = .returned (.bool r) ∧ Drawn0 w w' := by
 unfold impl_isRun.f at h
 have H := h
 clear h
 replace H := Option.bind_eq_some_iff.mp H
 obtain ⟨t272, A40, H⟩ := H
 (try dsimp only at H)
 have A4 := Aside0.mk A40
 clear A40
 by_cases c5 : t272 = true
 ·subst c5
  rw [if_pos rfl] at H
  replace H := Option.bind_eq_some_iff.mp H
  obtain ⟨t273, A60, H⟩ := H
  (try dsimp only at H)
  have A6 := Aside0.mk A60
  clear A60
  obtain rfl := Option.some.inj H
  go_enter Tryd.func39, Tryd.ntmps39
  go_wp2_with (first | ((with_reducible refine gate_callee (f := 42) rfl ?_); refine gl (some 11) Tryd.func42 #[.int .i64 a1, .int .i64 0, .int .i64 (wrap64 ((a0.size : Int) - 1))] ?_; (with_reducible refine (impl_in.calls a1 0 (wrap64 ((a0.size : Int) - 1)) true _ A4.out).mono ?_); rintro e w' ⟨rfl, ⟨nd, rfl⟩⟩; refine ⟨_, rfl, ?_⟩) | (go_at_call 42; (with_reducible refine (impl_in.calls a2 a1 (wrap64 ((a0.size : Int) - 1)) t273 _ A6.out).mono ?_); rintro e w' ⟨rfl, ⟨nd, rfl⟩⟩))
  go_ret
  exact ⟨rs, by repeat (first | exact Drawn0.refl _ | apply Drawn0.step)⟩
 ·replace c5 := Bool.eq_false_iff.mpr c5
  subst c5
  rw [if_neg (show ¬ (false = true) by decide)] at H
  obtain rfl := Option.some.inj H
  go_enter Tryd.func39, Tryd.ntmps39
  go_wp2_with (first | ((with_reducible refine gate_callee (f := 42) rfl ?_); refine gl (some 11) Tryd.func42 #[.int .i64 a1, .int .i64 0, .int .i64 (wrap64 ((a0.size : Int) - 1))] ?_; (with_reducible refine (impl_in.calls a1 0 (wrap64 ((a0.size : Int) - 1)) false _ A4.out).mono ?_); rintro e w' ⟨rfl, ⟨nd, rfl⟩⟩; refine ⟨_, rfl, ?_⟩))
  go_ret
  exact ⟨rs, by repeat (first | exact Drawn0.refl _ | apply Drawn0.step)⟩

/-! ### impl_turned: function 55 -/
def impl_turned.f (a0 : ByteArray) : Option ByteArray := if a0.size < 35184372088832 then some ⟨(Lib.mapD (fun x => 122 - x) a0.data.toList).toArray⟩ else none
theorem impl_turned_clo (x : Nat) (hx : x ≤ 1114111) (W : World) : Calls Tryd.prog 66 (#[.int .i32 (x : Int)] ++ #[]) W fun e w' => e = .returned (.int .i32 (122 - (x : Int))) ∧ Below W.heap.size W w' := by
  have h1 : IntKind.i32.wrap (122 - (x : Int)) = 122 - (x : Int) := by simp [IntKind.wrap, IntKind.bits, IntKind.signed]; omega
  have h2 : wrap32 (122 - (x : Int)) = 122 - (x : Int) := by rw [← i32_w]; exact h1
  show Calls Tryd.prog 66 #[.int .i32 (x : Int)] W _
  go_enter Tryd.func66, Tryd.ntmps66
  go_wp2
  go_ret
  exact ⟨by first | rfl | simp, by repeat (first | exact Below.refl _ _ | apply pw_below_drewN)⟩
theorem impl_turned.calls (a0 : ByteArray) (r : ByteArray) (w : World) (hm : Dr.Tab w) (h : impl_turned.f a0 = some r) :
  Calls Tryd.prog 55 #[.string a0] w fun e w' => e = .returned (.string r) ∧ Below w.heap.size w w' := by
 unfold impl_turned.f at h
 split at h
 ·next hc =>
  obtain rfl := Option.some.inj h
  have HB := Aside0.mk (Below.refl w.heap.size w)
  have HMM := Aside0.mk hm
  clear hm h
  have hmap : ∀ W, Dr.Tab W → Calls Tryd.prog 65 #[.func (.func 66) #[] #[], .string a0] W _ := fun W hW =>
   Any.strings_Map_grows Tryd.lays230 Tryd.Builder_Extra_230 66 #[] (enters_of Tryd.func66 (by kernel_rfl) rfl) (fun x => 122 - x) a0 W hc (fun W' x hx _ => impl_turned_clo x hx W') (fun x hx => by omega) (Dr.Tab.utf8 hW)
  have HMP := Aside0.mk hmap
  clear hmap
  go_enter Tryd.func55, Tryd.ntmps55
  go_wp2_with (first | (go_at_call 65; (refine (HMP.out _ (Dr.mm HMM)).mono ?_); rintro e w1 ⟨rfl, hb⟩; replace HB := bs hb; clear hb))
  go_ret
  exact ⟨by first | rfl | simp, by repeat (first | exact HB.out | apply pw_below_drewN)⟩
 ·cases h

end Go.Proofs.YteoklfgmdcofcaaDoor.PFnOrdersTurn
