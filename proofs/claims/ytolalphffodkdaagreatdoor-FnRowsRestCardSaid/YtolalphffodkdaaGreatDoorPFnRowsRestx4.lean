-- Laid by xprint, a program of this session that runs over the kit's print.
import Derived.Test.YtolalphffodkdaaGreatDoorPFnRowsRestx0
import Derived.Test.YtolalphffodkdaaGreatDoorPFnRowsRestx1
import Derived.Test.YtolalphffodkdaaGreatDoorPFnRowsRestx2
import Derived.Test.YtolalphffodkdaaGreatDoorPFnRowsRestx3
namespace Go.Proofs.YtolalphffodkdaaGreatDoor.PFnRowsRest
open Go.RowKit Go.Proofs.YtolalphffodkdaaGreatDoorW.PrintWords Go.Proofs.YtolalphffodkdaaGreatDoorW.PrintLast Go.Proofs.YtolalphffodkdaaGreatDoorW.PrintMore Go.Proofs.YtolalphffodkdaaGreatDoor.Sq
attribute [local go_sem] max2_int min2_int max_two min_two max_three min_three max_four min_four   -- for this text's walks alone
set_option linter.unusedVariables false
set_option linter.unusedSimpArgs false

/-! ### spec_TurnsOfEach: function 13 -/
mutual
def spec_TurnsOfEach.l0 : Nat → ByteArray → List Int → Option (List Int × Bool)
  | 0, _, _ => none
  | k + 1, x0, x4 => (spec_rwPairs.f k x0).bind fun t186 => (if (t186.length : Int) > 0 then ((spec_rwPairs.f k x0).bind fun t189 => (spec_TurnsOfEach.l1 k x0 x4 t189 (t189.length : Int) 0)) else (some (x4, true)))
def spec_TurnsOfEach.l1 : Nat → ByteArray → List Int → List Int → Int → Int → Option (List Int × Bool)
  | 0, _, _, _, _, _ => none
  | k + 1, x0, x4, x18, x19, x20 => if x20 < x19 then (if 0 ≤ x20 then (if x20 < (x18.length : Int) then (if 0 ≤ (rd x18 x20) then (if (rd x18 x20) < (x4.length : Int) then ((some (x4.set ((rd x18 x20) : Int).toNat (wrap64 ((rd x4 (rd x18 x20)) + 1)) : List Int)).bind fun y194 => (if 0 ≤ (wrap64 ((rd x18 x20) + 1)) then (if (wrap64 ((rd x18 x20) + 1)) < (x4.length : Int) then (spec_TurnsOfEach.l1 k x0 (y194.set ((wrap64 ((rd x18 x20) + 1)) : Int).toNat (wrap64 ((rd y194 (wrap64 ((rd x18 x20) + 1))) + 1))) x18 x19 (wrap64 (x20 + 1))) else (none)) else (none))) else (none)) else (none)) else (none)) else (none)) else ((spec_rwTick.f k x0).bind fun t197 => (spec_TurnsOfEach.l0 k t197 x4))
end
def spec_TurnsOfEach.f (k : Nat) (a0 : ByteArray) : Option (List Int × Bool) := (spec_rwGood.f k a0).bind fun t182 => (if t182 = true then (if 0 ≤ (a0.size : Int) then (if ((a0.size : Int) : Int).toNat ≤ 35184372088832 then (spec_TurnsOfEach.l0 k a0 (List.replicate ((a0.size : Int) : Int).toNat 0)) else (none)) else (none)) else (some (([] : List Int), false)))
theorem spec_TurnsOfEach.mono_l : ∀ k, (∀ y0 y1, LeO (spec_TurnsOfEach.l0 k y0 y1) (spec_TurnsOfEach.l0 (k + 1) y0 y1)) ∧ (∀ y0 y1 y2 y3 y4, LeO (spec_TurnsOfEach.l1 k y0 y1 y2 y3 y4) (spec_TurnsOfEach.l1 (k + 1) y0 y1 y2 y3 y4))
  | 0 => ⟨fun _ _ r h => by simp [spec_TurnsOfEach.l0] at h, fun _ _ _ _ _ r h => by simp [spec_TurnsOfEach.l1] at h⟩
  | k + 1 => by
    obtain ⟨ih0, ih1⟩ := spec_TurnsOfEach.mono_l k
    refine ⟨?_, ?_⟩
    · intro y0 y1
      unfold spec_TurnsOfEach.l0
      repeat' first
      | (with_reducible exact ih0 _ _)
      | (with_reducible exact ih1 _ _ _ _ _)
      | (with_reducible exact spec_rwGood.mono _ _)
      | (with_reducible exact spec_rwPairs.mono _ _)
      | (with_reducible exact spec_rwTick.mono _ _)
      | (with_reducible exact LeO.refl _)
      | (with_reducible exact LeO.none _)
      | (with_reducible refine LeO.ite ?_ ?_)
      | (with_reducible refine LeO.bind ?_ (fun _ => ?_))
      | exact ih0 _ _
      | exact ih1 _ _ _ _ _
      | exact spec_rwGood.mono _ _
      | exact spec_rwPairs.mono _ _
      | exact spec_rwTick.mono _ _
      | exact LeO.none _
      | refine LeO.ite ?_ ?_
      | refine LeO.bind ?_ (fun _ => ?_)
    · intro y0 y1 y2 y3 y4
      unfold spec_TurnsOfEach.l1
      repeat' first
      | (with_reducible exact ih0 _ _)
      | (with_reducible exact ih1 _ _ _ _ _)
      | (with_reducible exact spec_rwGood.mono _ _)
      | (with_reducible exact spec_rwPairs.mono _ _)
      | (with_reducible exact spec_rwTick.mono _ _)
      | (with_reducible exact LeO.refl _)
      | (with_reducible exact LeO.none _)
      | (with_reducible refine LeO.ite ?_ ?_)
      | (with_reducible refine LeO.bind ?_ (fun _ => ?_))
      | exact ih0 _ _
      | exact ih1 _ _ _ _ _
      | exact spec_rwGood.mono _ _
      | exact spec_rwPairs.mono _ _
      | exact spec_rwTick.mono _ _
      | exact LeO.none _
      | refine LeO.ite ?_ ?_
      | refine LeO.bind ?_ (fun _ => ?_)
theorem spec_TurnsOfEach.mono : ∀ a0 k, LeO (spec_TurnsOfEach.f k a0) (spec_TurnsOfEach.f (k + 1) a0) := by
  intro a0 k
  obtain ⟨ih0, ih1⟩ := spec_TurnsOfEach.mono_l k
  unfold spec_TurnsOfEach.f
  repeat' first
      | (with_reducible exact ih0 _ _)
      | (with_reducible exact ih1 _ _ _ _ _)
      | (with_reducible exact spec_rwGood.mono _ _)
      | (with_reducible exact spec_rwPairs.mono _ _)
      | (with_reducible exact spec_rwTick.mono _ _)
      | (with_reducible exact LeO.refl _)
      | (with_reducible exact LeO.none _)
      | (with_reducible refine LeO.ite ?_ ?_)
      | (with_reducible refine LeO.bind ?_ (fun _ => ?_))
      | exact ih0 _ _
      | exact ih1 _ _ _ _ _
      | exact spec_rwGood.mono _ _
      | exact spec_rwPairs.mono _ _
      | exact spec_rwTick.mono _ _
      | exact LeO.none _
      | refine LeO.ite ?_ ?_
      | refine LeO.bind ?_ (fun _ => ?_)
set_option maxHeartbeats 8000000 in
set_option maxRecDepth 100000 in
theorem spec_TurnsOfEach.calls (k : Nat) (a0 : ByteArray) (r1 : List Int) (r2 : Bool) (w : World) (h : spec_TurnsOfEach.f k a0 = some (r1, r2)) :
  Calls Tryz.prog 13 #[.string a0] w fun e w' => ∃ v0_ : Value, e = .returned (.tuple #[v0_, .bool r2]) ∧ Kd.R (Kd.int .i64) 3 w' w.heap.size (fun _ => True) v0_ r1 ∧ Below w.heap.size w w' := by
 have HB := Aside0.mk (Below.refl w.heap.size w)
 unfold spec_TurnsOfEach.f at h
 have H := h
 clear h
 replace H := Option.bind_eq_some_iff.mp H
 obtain ⟨t182, A20, H⟩ := H
 (try dsimp only at H)
 have A2 := Aside0.mk A20
 clear A20
 by_cases c3 : t182 = true
 ·subst c3
  rw [if_pos rfl] at H
  by_cases c4 : 0 ≤ (a0.size : Int)
  ·rw [if_pos c4] at H
   have c4b0 := eq_true c4
   have c4b1 : decide (0 ≤ (a0.size : Int)) = true := decide_eq_true c4
   clear c4
   by_cases c5 : ((a0.size : Int) : Int).toNat ≤ 35184372088832
   ·rw [if_pos c5] at H
    have c5b0 := eq_true c5
    have c5b1 : decide (((a0.size : Int) : Int).toNat ≤ 35184372088832) = true := decide_eq_true c5
    clear c5
    obtain ⟨y183, hy183⟩ : ∃ y_ : List Int, y_ = (List.replicate ((a0.size : Int) : Int).toNat 0) := ⟨_, rfl⟩
    replace H : (spec_TurnsOfEach.l0 k a0 y183) = some (r1, r2) := by first | (rw [hy183]; with_reducible exact H) | (have H2_ := (Option.bind_some _ _).symm.trans H; rw [hy183]; with_reducible exact H2_) | (have H2_ := (Option.bind_some _ _).symm.trans H; with_reducible exact H2_) | with_reducible exact H | (rw [hy183]; exact H) | exact H
    have Ny183 := Aside0.mk hy183
    clear hy183
    have H' := Aside0.mk H
    clear H
    go_enter Tryz.func13, Tryz.ntmps13
    go_wp2_with (first | ((with_reducible refine gate_callee (f := 42) rfl ?_); refine gl (some 8) Tryz.func42 #[.string a0] ?_; (with_reducible refine (spec_rwGood.calls k a0 true _ A2.out).mono ?_); rintro e w' ⟨rfl, ⟨nd, rfl⟩⟩; refine ⟨_, rfl, ?_⟩) | ((with_reducible refine gate_dst (N := 12) rfl ?_); refine Kd.R_make (Kd.int .i64) _ 3 rfl (N := 12) rfl 29 _ _ rfl (a0.size : Int) rfl rfl Tryz.underlying29 (.int .i64 0) 8 info3 rfl (by decide) (by omega) 0 (ok := fun _ => True) (okp := fun _ => True) rfl (fun _ hk => hk) trivial (of_decide_eq_true (by first | (with_reducible assumption) | assumption)) (Nat.le_trans (Nat.mul_le_mul_right _ (of_decide_eq_true (by first | (with_reducible assumption) | assumption) : (a0.size : Int).toNat ≤ 35184372088832)) (by omega)) (Below.refl _ _) (Nat.le_refl _) ?_; intro v184 w6 ho7 hb hg_ hnew_; clear hg_ hnew_; (first | rw [← Ny183.out] at ho7 | (simp only [Int.reduceToNat] at ho7; rw [← Ny183.out] at ho7)); have HO185 := Aside0.mk (Kd.R_lower ho7 (below_size bw)); replace HB := bs hb; clear hb ho7))
    go_loopg [0] k (fun kq v0 w' => ∃ (x0_1 : ByteArray) (x4_1 : List Int), v0 = .string x0_1 ∧ Aside0 (spec_TurnsOfEach.l0 kq x0_1 x4_1 = some (r1, r2)) ∧ Aside0 (kq ≤ k) ∧ Aside0 (Kd.R (Kd.int .i64) 3 w' w.heap.size (fun _ => True) v184 x4_1) ∧ Aside0 (Below w.heap.size w w'))
    case atStart => exact ⟨(a0), (y183), (rs), H', ⟨Nat.le_refl _⟩, ⟨pr HO185⟩, ⟨bw⟩⟩
    case round =>
     clear H'
     try clear c1
     try clear p2
     try clear c3
     try clear c4
     try clear c4b0
     try clear c4b1
     try clear c5
     try clear c5b0
     try clear c5b1
     obtain ⟨x0_1, x4_1, rfl, HA, HK1, HO_4, HB⟩ := hrel
     cases gk with
     | zero => exact absurd HA.out (by simp [spec_TurnsOfEach.l0])
     | succ k1 =>
      have H := HA.out
      clear HA
      simp only [spec_TurnsOfEach.l0] at H
      replace H := Option.bind_eq_some_iff.mp H
      obtain ⟨t186, A80, H⟩ := H
      (try dsimp only at H)
      have A8 := Aside0.mk A80
      clear A80
      by_cases c9 : (t186.length : Int) > 0
      ·rw [if_pos c9] at H
       have c9b0 : decide (0 < (t186.length : Int)) = true := decide_eq_true c9
       have c9b1 : decide (0 < t186.length) = true := decide_eq_true (by omega)
       clear c9
       replace H := Option.bind_eq_some_iff.mp H
       obtain ⟨t189, A100, H⟩ := H
       (try dsimp only at H)
       have A10 := Aside0.mk A100
       clear A100
       have H' := Aside0.mk H
       clear H
       go_wp2_with (first | ((with_reducible refine gate_callee (f := 48) rfl ?_); refine gl (some 14) Tryz.func48 #[.string x0_1] ?_; (with_reducible refine (spec_rwPairs.calls k1 x0_1 t186 _ A8.out).mono ?_); rintro e w11 ⟨v187, rfl, ho0, hb⟩; refine ⟨_, rfl, ?_⟩; have HO188 := Aside0.mk (Kd.R_lower (Kd.R_new' ho0 (Kd.R_lt (pr HO_4))) (below_size bw)); replace HO_4 := Aside0.mk (Kd.R_elder' (pr HO_4) (Kd.R_base ho0) hb); replace HB := bs hb; (try clear hb); (try clear ho0); obtain ⟨Ao12, co12, eo12⟩ := Kd.R_slice HO188.out; subst eo12) | ((with_reducible refine gate_callee (f := 48) rfl ?_); refine gl (some 18) Tryz.func48 #[.string x0_1] ?_; (with_reducible refine (spec_rwPairs.calls k1 x0_1 t189 _ A10.out).mono ?_); rintro e w13 ⟨v190, rfl, ho0, hb⟩; refine ⟨_, rfl, ?_⟩; have HO191 := Aside0.mk (Kd.R_lower (Kd.R_new' (Kd.R_new' ho0 (Kd.R_lt (pr HO_4))) (Kd.R_lt (pr HO188))) (below_size bw)); replace HO_4 := Aside0.mk (Kd.R_elder' (pr HO_4) (Kd.R_base ho0) hb); replace HO188 := Aside0.mk (Kd.R_elder' (pr HO188) (Kd.R_base ho0) hb); replace HB := bs hb; (try clear hb); (try clear ho0); obtain ⟨Ao14, co14, eo14⟩ := Kd.R_slice HO191.out; subst eo14))
       go_loopg [20] k1 (fun kq v20 w' => ∃ (x4_2 : List Int) (x20_2 : Int), v20 = .int .i64 x20_2 ∧ Aside0 (spec_TurnsOfEach.l1 kq x0_1 x4_2 t189 (t189.length : Int) x20_2 = some (r1, r2)) ∧ Aside0 (kq ≤ k1) ∧ Aside0 (Kd.R (Kd.int .i64) 3 w' w.heap.size (fun k_ => some k_ ≠ ((.slice Ao14 t189.length co14) : Value).ownBlock) v184 x4_2) ∧ Aside0 (Kd.R (Kd.int .i64) 3 w' w.heap.size (fun k_ => some k_ ≠ (v184 : Value).ownBlock) (.slice Ao14 t189.length co14) t189) ∧ Aside0 (Below w.heap.size w w'))
       case atStart => exact ⟨(x4_1), (0), (rs), H', ⟨Nat.le_refl _⟩, ⟨by (with_reducible repeat (first | apply Kd.R_alloc | apply Kd.R_drewN | apply Kd.R_drew)); exact Kd.R_mono HO_4.out (fun _ hk => hk.2)⟩, ⟨by (with_reducible repeat (first | apply Kd.R_alloc | apply Kd.R_drewN | apply Kd.R_drew)); exact Kd.R_mono HO191.out (fun _ hk => hk.1.2)⟩, ⟨bw⟩⟩
       case round =>
        clear H'
        try clear c1
        try clear p2
        try clear c3
        try clear c4
        try clear c4b0
        try clear c4b1
        try clear c5
        try clear c5b0
        try clear c5b1
        try clear c9
        try clear c9b0
        try clear c9b1
        try clear c13
        try clear p2
        obtain ⟨x4_2, x20_2, rfl, HA, HK2, HO_4, HO_18, HB⟩ := hrel
        cases gk with
        | zero => exact absurd HA.out (by simp [spec_TurnsOfEach.l1])
        | succ k2 =>
         have H := HA.out
         clear HA
         simp only [spec_TurnsOfEach.l1] at H
         by_cases c15 : x20_2 < (t189.length : Int)
         ·rw [if_pos c15] at H
          have c15b0 : decide (x20_2 < (t189.length : Int)) = true := decide_eq_true c15
          clear c15
          by_cases c16 : 0 ≤ x20_2
          ·rw [if_pos c16] at H
           have c16b0 : decide (0 ≤ x20_2) = true := decide_eq_true c16
           clear c16
           by_cases c17 : x20_2 < (t189.length : Int)
           ·rw [if_pos c17] at H
            have c17b0 : decide (x20_2 < (t189.length : Int)) = true := decide_eq_true c17
            clear c17
            by_cases c18 : 0 ≤ (rd t189 x20_2)
            ·rw [if_pos c18] at H
             have c18b0 : decide (0 ≤ (rd t189 x20_2)) = true := decide_eq_true c18
             clear c18
             by_cases c19 : (rd t189 x20_2) < (x4_2.length : Int)
             ·rw [if_pos c19] at H
              have c19b0 : decide ((rd t189 x20_2) < (x4_2.length : Int)) = true := decide_eq_true c19
              clear c19
              obtain ⟨y194, hy194⟩ : ∃ y_ : List Int, y_ = (x4_2.set ((rd t189 x20_2) : Int).toNat (wrap64 ((rd x4_2 (rd t189 x20_2)) + 1))) := ⟨_, rfl⟩
              replace H : (if 0 ≤ (wrap64 ((rd t189 x20_2) + 1)) then (if (wrap64 ((rd t189 x20_2) + 1)) < (x4_2.length : Int) then (spec_TurnsOfEach.l1 k2 x0_1 (y194.set ((wrap64 ((rd t189 x20_2) + 1)) : Int).toNat (wrap64 ((rd y194 (wrap64 ((rd t189 x20_2) + 1))) + 1))) t189 (t189.length : Int) (wrap64 (x20_2 + 1))) else (none)) else (none)) = some (r1, r2) := by first | (rw [hy194]; with_reducible exact H) | (have H2_ := (Option.bind_some _ _).symm.trans H; rw [hy194]; with_reducible exact H2_) | (have H2_ := (Option.bind_some _ _).symm.trans H; with_reducible exact H2_) | with_reducible exact H | (rw [hy194]; exact H) | exact H
              have Ny194 := Aside0.mk hy194
              clear hy194
              obtain ⟨ji21, hji21⟩ : ∃ j_ : Int, (wrap64 ((rd t189 x20_2) + 1)) = j_ := ⟨_, rfl⟩
              replace H : (if 0 ≤ (ji21) then (if (ji21) < (x4_2.length : Int) then (spec_TurnsOfEach.l1 k2 x0_1 (y194.set ((ji21) : Int).toNat (wrap64 ((rd y194 (ji21)) + 1))) t189 (t189.length : Int) (wrap64 (x20_2 + 1))) else (none)) else (none)) = some (r1, r2) := by first | (rw [hji21] at H; exact H) | (simp only [hji21] at H ⊢; exact H)
              have hji21w : (IntKind.i64.wrap ((rd t189 x20_2) + 1)) = ji21 := (i64_w _).trans hji21
              by_cases c22 : 0 ≤ (ji21)
              ·rw [if_pos c22] at H
               have c22b0 : decide (0 ≤ (ji21)) = true := decide_eq_true c22
               clear c22
               by_cases c23 : (ji21) < (x4_2.length : Int)
               ·rw [if_pos c23] at H
                have c23b0 : decide ((ji21) < (x4_2.length : Int)) = true := decide_eq_true c23
                clear c23
                obtain ⟨y196, hy196⟩ : ∃ y_ : List Int, y_ = (y194.set ((ji21) : Int).toNat (wrap64 ((rd y194 (ji21)) + 1))) := ⟨_, rfl⟩
                replace H : (spec_TurnsOfEach.l1 k2 x0_1 y196 t189 (t189.length : Int) (wrap64 (x20_2 + 1))) = some (r1, r2) := by first | (rw [hy196]; with_reducible exact H) | (have H2_ := (Option.bind_some _ _).symm.trans H; rw [hy196]; with_reducible exact H2_) | (have H2_ := (Option.bind_some _ _).symm.trans H; with_reducible exact H2_) | with_reducible exact H | (rw [hy196]; exact H) | exact H
                have Ny196 := Aside0.mk hy196
                clear hy196
                have H' := Aside0.mk H
                clear H
                have p192 : 0 ≤ (x20_2 : Int) := of_decide_eq_true (by first | (with_reducible assumption) | assumption)
                have q192 : x20_2 < (t189.length : Int) := of_decide_eq_true (by first | (with_reducible assumption) | assumption)
                obtain ⟨ad192, e192, hx192_0⟩ := Kd.at_int (Kd.R_reads' HO_18.out).2.2 x20_2 p192 q192
                cases e192
                replace p192 := eq_true p192
                replace q192 := eq_true q192
                obtain ⟨Ao25, co25, eo25⟩ := Kd.R_slice HO_4.out
                subst eo25
                have p193 : 0 ≤ ((rd t189 x20_2) : Int) := of_decide_eq_true (by first | (with_reducible assumption) | assumption)
                have q193 : (rd t189 x20_2) < (x4_2.length : Int) := of_decide_eq_true (by first | (with_reducible assumption) | assumption)
                obtain ⟨ad193, e193, hx193_0⟩ := Kd.at_int (Kd.R_reads' HO_4.out).2.2 (rd t189 x20_2) p193 q193
                cases e193
                replace p193 := eq_true p193
                replace q193 := eq_true q193
                have p20 : 0 ≤ ((rd t189 x20_2) : Int) := of_decide_eq_true (by first | (with_reducible assumption) | assumption)
                have q20 : ((rd t189 x20_2) : Int) < ((x4_2.length : Int) : Int) := of_decide_eq_true (by first | (with_reducible assumption) | assumption)
                obtain ⟨go20, co20, eo20, gb20, gl20, cl20, HG20⟩ := Kd.R_form HO_4.out (by omega)
                (first | cases eo20 | (injection eo20 with ea_ en_ ec_; (first | subst ea_ | (injection ea_ with ea_; subst ea_)); subst ec_; clear en_))
                have GB20 := Aside0.mk gb20
                have GG20 := Aside0.mk HG20
                clear gb20 gl20 HG20
                (first | simp only [add_plain] at hx193_0 | skip)
                obtain ⟨hx20_0, hf20_0⟩ := Kd.R_celln 0 HO_4.out ((rd t189 x20_2) : Int) p20 q20
                replace p20 := eq_true p20
                replace q20 := eq_true q20
                have HP26 := Kd.R_putg HO_4.out ((rd t189 x20_2) : Int) (wrap64 ((rd x4_2 (rd t189 x20_2)) + 1))
                go_wp2_with (first | ((with_reducible refine gate_store (t := 3) (p := 29) rfl ?_); refine store_event (t := 3) (p := 29) (v := ?vo_w27) (w1 := (wr.setCell ⟨go20, ((rd t189 x20_2) : Int).toNat, none⟩ (.int .i64 (wrap64 ((rd x4_2 (rd t189 x20_2)) + 1))))) ?hg ?ho ?hn ?hr ?_; (case ho => rfl); (case hg => rfl); (case hn => rfl); (case hr => first | (go_simp; done) | (go_simp; rfl)); intro w27 hw; have hg : wr.grownBy w27 (some go20) := (by rw [hw]; exact HP26.2); have hp_ : Kd.R (Kd.int .i64) 3 w27 w.heap.size (fun k_ => some k_ ≠ (.slice (some ad192) t189.length co14 : Value).ownBlock) (.slice (some ⟨go20, 0, none⟩) x4_2.length co25) y194 := (by rw [hw, Ny194.out]; exact HP26.1); clear HP26; replace HO_4 := Aside0.mk (hp_); replace HO_18 := Aside0.mk (Kd.R_after (v := (.slice (some ⟨go20, 0, none⟩) x4_2.length co25)) (v1 := (.slice (some ⟨go20, 0, none⟩) x4_2.length co25)) (ok := (fun _ => True)) (by (with_reducible repeat (first | apply Kd.R_alloc | apply Kd.R_drewN | apply Kd.R_drew)); exact Kd.R_mono HO_18.out (fun _ hk => ⟨trivial, hk⟩)) hg (.inl rfl)); replace HB := Aside0.mk ((by rw [hw]; exact below_set (HB.out) GB20.out : Below w.heap.size w w27)); clear hg hw hp_; have p195 : 0 ≤ ((ji21) : Int) := of_decide_eq_true (by first | (with_reducible assumption) | assumption); have q195 : (ji21) < (y194.length : Int) := (by have h_ : ((ji21) : Int) < ((x4_2.length : Int) : Int) := of_decide_eq_true (by first | (with_reducible assumption) | assumption); first | (have e_ := (Kd.R_reads' HO_4.out).1; omega) | simpa only [Ny194.out, List.length_set] using h_); have ql195 : (((ji21) : Int) < ((x4_2.length : Int) : Int)) = True := eq_true (of_decide_eq_true (by first | (with_reducible assumption) | assumption)); obtain ⟨ad195, e195, hx195_0⟩ := Kd.at_int (Kd.R_reads' HO_4.out).2.2 (ji21) p195 q195; obtain rfl : (⟨go20, 0, none⟩ : Addr) = ad195 := (by injection e195); (first | simp only [add_plain] at hx195_0 | simp only [add_at] at hx195_0 | simp only [Addr.add, Nat.zero_add] at hx195_0 | skip); replace p195 := eq_true p195; replace q195 := eq_true q195; have p24 : 0 ≤ ((ji21) : Int) := of_decide_eq_true (by first | (with_reducible assumption) | assumption); have q24 : ((ji21) : Int) < ((x4_2.length : Int) : Int) := of_decide_eq_true (by first | (with_reducible assumption) | assumption); obtain ⟨hx24_0, hf24_0⟩ := Kd.R_celln 0 HO_4.out ((ji21) : Int) p24 q24; replace p24 := eq_true p24; replace q24 := eq_true q24; obtain ⟨hy28_, hz28_⟩ := Kd.R_celln 0 HO_4.out ((ji21) : Int) (of_decide_eq_true (by first | (with_reducible assumption) | assumption)) (of_decide_eq_true (by first | (with_reducible assumption) | assumption)); have HP28 := Kd.R_putg HO_4.out ((ji21) : Int) (wrap64 ((rd y194 (ji21)) + 1))) | ((with_reducible refine gate_store (t := 3) (p := 36) rfl ?_); refine store_event (t := 3) (p := 36) (v := ?vo_w29) (w1 := (w27.setCell ⟨go20, ((ji21) : Int).toNat, none⟩ (.int .i64 (wrap64 ((rd y194 (ji21)) + 1))))) ?hg ?ho ?hn ?hr ?_; (case ho => rfl); (case hg => rfl); (case hn => rfl); (case hr => first | (go_simp; done) | (go_simp; rfl)); intro w29 hw; have hg : w27.grownBy w29 (some go20) := (by rw [hw]; exact HP28.2); have hp_ : Kd.R (Kd.int .i64) 3 w29 w.heap.size (fun k_ => some k_ ≠ (.slice (some ad192) t189.length co14 : Value).ownBlock) (.slice (some ⟨go20, 0, none⟩) x4_2.length co25) y196 := (by rw [hw, Ny196.out]; exact HP28.1); clear HP28; replace HO_4 := Aside0.mk (hp_); replace HO_18 := Aside0.mk (Kd.R_after (v := (.slice (some ⟨go20, 0, none⟩) x4_2.length co25)) (v1 := (.slice (some ⟨go20, 0, none⟩) x4_2.length co25)) (ok := (fun _ => True)) (pr HO_18) hg (.inl rfl)); replace HB := Aside0.mk ((by rw [hw]; exact below_set (HB.out) GB20.out : Below w.heap.size w w29)); clear hg hw hp_))
                go_roundg k2
                case measure => have := HK1.out; have := HK2.out; omega
                case rel => exact ⟨(y196), (wrap64 (x20_2 + 1)), (rs), H', ⟨by have := HK1.out; have := HK2.out; omega⟩, ⟨pr HO_4⟩, ⟨by (with_reducible repeat (first | apply Kd.R_alloc | apply Kd.R_drewN | apply Kd.R_drew)); exact Kd.R_mono HO_18.out (fun _ hk => hk.2)⟩, ⟨bw⟩⟩
               ·rw [if_neg c23] at H
                exact absurd H (by simp)
              ·rw [if_neg c22] at H
               exact absurd H (by simp)
             ·rw [if_neg c19] at H
              exact absurd H (by simp)
            ·rw [if_neg c18] at H
             exact absurd H (by simp)
           ·rw [if_neg c17] at H
            exact absurd H (by simp)
          ·rw [if_neg c16] at H
           exact absurd H (by simp)
         ·rw [if_neg c15] at H
          have c15b0 : decide (x20_2 < (t189.length : Int)) = false := decide_eq_false c15
          clear c15
          replace H := Option.bind_eq_some_iff.mp H
          obtain ⟨t197, A300, H⟩ := H
          (try dsimp only at H)
          have A30 := Aside0.mk A300
          clear A300
          have H' := Aside0.mk H
          clear H
          go_wp2_with (first | ((with_reducible refine gate_callee (f := 49) rfl ?_); refine gl (some 39) Tryz.func49 #[.string x0_1] ?_; (with_reducible refine (spec_rwTick.calls k2 x0_1 t197 _ A30.out).mono ?_); rintro e w31 ⟨rfl, hb⟩; refine ⟨_, rfl, ?_⟩; replace HO_4 := Aside0.mk (Kd.R_below (pr HO_4) hb); replace HO_18 := Aside0.mk (Kd.R_below (pr HO_18) hb); replace HB := bs hb; (try clear hb)))
          go_roundg k2
          case measure => have := HK1.out; have := HK2.out; omega
          case rel => exact ⟨(t197), (x4_2), (rs), H', ⟨by have := HK1.out; have := HK2.out; omega⟩, ⟨by (with_reducible repeat (first | apply Kd.R_alloc | apply Kd.R_drewN | apply Kd.R_drew)); exact Kd.R_mono HO_4.out (fun _ hk => trivial)⟩, ⟨bw⟩⟩
      ·rw [if_neg c9] at H
       have c9b0 : decide (0 < (t186.length : Int)) = false := decide_eq_false c9
       have c9b1 : decide (0 < t186.length) = false := decide_eq_false (by omega)
       clear c9
       simp only [Option.some.injEq, Prod.mk.injEq] at H
       obtain ⟨rfl, rfl⟩ := H
       go_wp2_with (first | ((with_reducible refine gate_callee (f := 48) rfl ?_); refine gl (some 14) Tryz.func48 #[.string x0_1] ?_; (with_reducible refine (spec_rwPairs.calls k1 x0_1 t186 _ A8.out).mono ?_); rintro e w32 ⟨v187, rfl, ho0, hb⟩; refine ⟨_, rfl, ?_⟩; have HO188 := Aside0.mk (Kd.R_lower (Kd.R_new' ho0 (Kd.R_lt (pr HO_4))) (below_size bw)); replace HO_4 := Aside0.mk (Kd.R_elder' (pr HO_4) (Kd.R_base ho0) hb); replace HB := bs hb; (try clear hb); (try clear ho0); obtain ⟨Ao33, co33, eo33⟩ := Kd.R_slice HO188.out; subst eo33))
       go_ret2
       exact ⟨_, rs, by (with_reducible repeat (first | apply Kd.R_alloc | apply Kd.R_drewN | apply Kd.R_drew)); exact Kd.R_mono HO_4.out (fun _ hk => trivial), bw⟩
   ·rw [if_neg c5] at H
    exact absurd H (by simp)
  ·rw [if_neg c4] at H
   exact absurd H (by simp)
 ·replace c3 := Bool.eq_false_iff.mpr c3
  subst c3
  rw [if_neg (show ¬ (false = true) by decide)] at H
  simp only [Option.some.injEq, Prod.mk.injEq] at H
  obtain ⟨rfl, rfl⟩ := H
  go_enter Tryz.func13, Tryz.ntmps13
  go_wp2_with (first | ((with_reducible refine gate_callee (f := 42) rfl ?_); refine gl (some 8) Tryz.func42 #[.string a0] ?_; (with_reducible refine (spec_rwGood.calls k a0 false _ A2.out).mono ?_); rintro e w' ⟨rfl, ⟨nd, rfl⟩⟩; refine ⟨_, rfl, ?_⟩))
  go_ret2
  exact ⟨_, rs, by first | exact Kd.R_nil _ _ _ _ _ | exact Kd.N_nil _ _ _ _ _ | exact Kd.V_nil _ _ _ _ _ | exact Kd.Q_nil _ _ _ _ _ | exact Kd.S_nil _ _ _ _ _, bw⟩

/-! ### impl_FacingPairs: function 14 -/
def impl_FacingPairs.f (k : Nat) (a0 : ByteArray) : Option (List Int × Bool) := (impl_isRow.f a0).bind fun t198 => (if t198 = true then ((impl_facing.f k a0).bind fun t199 => (some (t199, true))) else (some (([] : List Int), false)))
theorem impl_FacingPairs.mono : ∀ a0 k, LeO (impl_FacingPairs.f k a0) (impl_FacingPairs.f (k + 1) a0) := by
  intro a0 k
  unfold impl_FacingPairs.f
  repeat' first
      | (with_reducible exact impl_facing.mono _ _)
      | (with_reducible exact LeO.refl _)
      | (with_reducible exact LeO.none _)
      | (with_reducible refine LeO.ite ?_ ?_)
      | (with_reducible refine LeO.bind ?_ (fun _ => ?_))
      | exact impl_facing.mono _ _
      | exact LeO.none _
      | refine LeO.ite ?_ ?_
      | refine LeO.bind ?_ (fun _ => ?_)
set_option maxHeartbeats 8000000 in
set_option maxRecDepth 100000 in
theorem impl_FacingPairs.calls (k : Nat) (a0 : ByteArray) (r1 : List Int) (r2 : Bool) (w : World) (h : impl_FacingPairs.f k a0 = some (r1, r2)) :
  Calls Tryz.prog 14 #[.string a0] w fun e w' => ∃ v0_ : Value, e = .returned (.tuple #[v0_, .bool r2]) ∧ Kd.R (Kd.int .i64) 3 w' w.heap.size (fun _ => True) v0_ r1 ∧ Below w.heap.size w w' := by
 have HB := Aside0.mk (Below.refl w.heap.size w)
 unfold impl_FacingPairs.f at h
 have H := h
 clear h
 replace H := Option.bind_eq_some_iff.mp H
 obtain ⟨t198, A20, H⟩ := H
 (try dsimp only at H)
 have A2 := Aside0.mk A20
 clear A20
 by_cases c3 : t198 = true
 ·subst c3
  rw [if_pos rfl] at H
  replace H := Option.bind_eq_some_iff.mp H
  obtain ⟨t199, A40, H⟩ := H
  (try dsimp only at H)
  have A4 := Aside0.mk A40
  clear A40
  simp only [Option.some.injEq, Prod.mk.injEq] at H
  obtain ⟨rfl, rfl⟩ := H
  go_enter Tryz.func14, Tryz.ntmps14
  go_wp2_with (first | ((with_reducible refine gate_callee (f := 40) rfl ?_); refine gl (some 5) Tryz.func40 #[.string a0] ?_; (with_reducible refine (impl_isRow.calls a0 true _ A2.out).mono ?_); rintro e w5 ⟨rfl, hb⟩; refine ⟨_, rfl, ?_⟩; replace HB := bs hb; (try clear hb)) | ((with_reducible refine gate_callee (f := 47) rfl ?_); refine gl (some 8) Tryz.func47 #[.string a0] ?_; (with_reducible refine (impl_facing.calls k a0 t199 _ A4.out).mono ?_); rintro e w6 ⟨v200, rfl, ho0, hb⟩; refine ⟨_, rfl, ?_⟩; have HO201 := Aside0.mk (Kd.R_lower ho0 (below_size bw)); replace HB := bs hb; (try clear hb); (try clear ho0)))
  go_ret2
  exact ⟨_, rs, pr HO201, bw⟩
 ·replace c3 := Bool.eq_false_iff.mpr c3
  subst c3
  rw [if_neg (show ¬ (false = true) by decide)] at H
  simp only [Option.some.injEq, Prod.mk.injEq] at H
  obtain ⟨rfl, rfl⟩ := H
  go_enter Tryz.func14, Tryz.ntmps14
  go_wp2_with (first | ((with_reducible refine gate_callee (f := 40) rfl ?_); refine gl (some 5) Tryz.func40 #[.string a0] ?_; (with_reducible refine (impl_isRow.calls a0 false _ A2.out).mono ?_); rintro e w7 ⟨rfl, hb⟩; refine ⟨_, rfl, ?_⟩; replace HB := bs hb; (try clear hb)))
  go_ret2
  exact ⟨_, rs, by first | exact Kd.R_nil _ _ _ _ _ | exact Kd.N_nil _ _ _ _ _ | exact Kd.V_nil _ _ _ _ _ | exact Kd.Q_nil _ _ _ _ _ | exact Kd.S_nil _ _ _ _ _, bw⟩

/-! ### spec_FacingPairs: function 15 -/
def spec_FacingPairs.f (k : Nat) (a0 : ByteArray) : Option (List Int × Bool) := (spec_rwGood.f k a0).bind fun t202 => (if t202 = true then ((spec_rwPairs.f k a0).bind fun t203 => (some (t203, true))) else (some (([] : List Int), false)))
theorem spec_FacingPairs.mono : ∀ a0 k, LeO (spec_FacingPairs.f k a0) (spec_FacingPairs.f (k + 1) a0) := by
  intro a0 k
  unfold spec_FacingPairs.f
  repeat' first
      | (with_reducible exact spec_rwGood.mono _ _)
      | (with_reducible exact spec_rwPairs.mono _ _)
      | (with_reducible exact LeO.refl _)
      | (with_reducible exact LeO.none _)
      | (with_reducible refine LeO.ite ?_ ?_)
      | (with_reducible refine LeO.bind ?_ (fun _ => ?_))
      | exact spec_rwGood.mono _ _
      | exact spec_rwPairs.mono _ _
      | exact LeO.none _
      | refine LeO.ite ?_ ?_
      | refine LeO.bind ?_ (fun _ => ?_)
set_option maxHeartbeats 8000000 in
set_option maxRecDepth 100000 in
theorem spec_FacingPairs.calls (k : Nat) (a0 : ByteArray) (r1 : List Int) (r2 : Bool) (w : World) (h : spec_FacingPairs.f k a0 = some (r1, r2)) :
  Calls Tryz.prog 15 #[.string a0] w fun e w' => ∃ v0_ : Value, e = .returned (.tuple #[v0_, .bool r2]) ∧ Kd.R (Kd.int .i64) 3 w' w.heap.size (fun _ => True) v0_ r1 ∧ Below w.heap.size w w' := by
 have HB := Aside0.mk (Below.refl w.heap.size w)
 unfold spec_FacingPairs.f at h
 have H := h
 clear h
 replace H := Option.bind_eq_some_iff.mp H
 obtain ⟨t202, A20, H⟩ := H
 (try dsimp only at H)
 have A2 := Aside0.mk A20
 clear A20
 by_cases c3 : t202 = true
 ·subst c3
  rw [if_pos rfl] at H
  replace H := Option.bind_eq_some_iff.mp H
  obtain ⟨t203, A40, H⟩ := H
  (try dsimp only at H)
  have A4 := Aside0.mk A40
  clear A40
  simp only [Option.some.injEq, Prod.mk.injEq] at H
  obtain ⟨rfl, rfl⟩ := H
  go_enter Tryz.func15, Tryz.ntmps15
  go_wp2_with (first | ((with_reducible refine gate_callee (f := 42) rfl ?_); refine gl (some 5) Tryz.func42 #[.string a0] ?_; (with_reducible refine (spec_rwGood.calls k a0 true _ A2.out).mono ?_); rintro e w' ⟨rfl, ⟨nd, rfl⟩⟩; refine ⟨_, rfl, ?_⟩) | ((with_reducible refine gate_callee (f := 48) rfl ?_); refine gl (some 8) Tryz.func48 #[.string a0] ?_; (with_reducible refine (spec_rwPairs.calls k a0 t203 _ A4.out).mono ?_); rintro e w5 ⟨v204, rfl, ho0, hb⟩; refine ⟨_, rfl, ?_⟩; have HO205 := Aside0.mk (Kd.R_lower ho0 (below_size bw)); replace HB := bs hb; (try clear hb); (try clear ho0)))
  go_ret2
  exact ⟨_, rs, pr HO205, bw⟩
 ·replace c3 := Bool.eq_false_iff.mpr c3
  subst c3
  rw [if_neg (show ¬ (false = true) by decide)] at H
  simp only [Option.some.injEq, Prod.mk.injEq] at H
  obtain ⟨rfl, rfl⟩ := H
  go_enter Tryz.func15, Tryz.ntmps15
  go_wp2_with (first | ((with_reducible refine gate_callee (f := 42) rfl ?_); refine gl (some 5) Tryz.func42 #[.string a0] ?_; (with_reducible refine (spec_rwGood.calls k a0 false _ A2.out).mono ?_); rintro e w' ⟨rfl, ⟨nd, rfl⟩⟩; refine ⟨_, rfl, ?_⟩))
  go_ret2
  exact ⟨_, rs, by first | exact Kd.R_nil _ _ _ _ _ | exact Kd.N_nil _ _ _ _ _ | exact Kd.V_nil _ _ _ _ _ | exact Kd.Q_nil _ _ _ _ _ | exact Kd.S_nil _ _ _ _ _, bw⟩

/-! ### impl_TickRow: function 16 -/
def impl_TickRow.f (a0 : ByteArray) : Option (ByteArray × Bool) := (impl_isRow.f a0).bind fun t206 => (if t206 = true then ((impl_tick.f a0).bind fun t207 => (some (t207, true))) else (some ((⟨#[]⟩ : ByteArray), false)))
set_option maxHeartbeats 8000000 in
set_option maxRecDepth 100000 in
theorem impl_TickRow.calls (a0 : ByteArray) (r1 : ByteArray) (r2 : Bool) (w : World) (hm : Dr.Tab w) (h : impl_TickRow.f a0 = some (r1, r2)) :
  Calls Tryz.prog 16 #[.string a0] w fun e w' => e = .returned (.tuple #[.string r1, .bool r2]) ∧ Below w.heap.size w w' := by
 have HB := Aside0.mk (Below.refl w.heap.size w)
 have HMM := Aside0.mk hm
 clear hm
 unfold impl_TickRow.f at h
 have H := h
 clear h
 replace H := Option.bind_eq_some_iff.mp H
 obtain ⟨t206, A20, H⟩ := H
 (try dsimp only at H)
 have A2 := Aside0.mk A20
 clear A20
 by_cases c3 : t206 = true
 ·subst c3
  rw [if_pos rfl] at H
  replace H := Option.bind_eq_some_iff.mp H
  obtain ⟨t207, A40, H⟩ := H
  (try dsimp only at H)
  have A4 := Aside0.mk A40
  clear A40
  simp only [Option.some.injEq, Prod.mk.injEq] at H
  obtain ⟨rfl, rfl⟩ := H
  go_enter Tryz.func16, Tryz.ntmps16
  go_wp2_with (first | ((with_reducible refine gate_callee (f := 40) rfl ?_); refine gl (some 5) Tryz.func40 #[.string a0] ?_; (with_reducible refine (impl_isRow.calls a0 true _ A2.out).mono ?_); rintro e w5 ⟨rfl, hb⟩; refine ⟨_, rfl, ?_⟩; replace HB := bs hb; (try clear hb)) | ((with_reducible refine gate_callee (f := 51) rfl ?_); refine gl (some 8) Tryz.func51 #[.string a0] ?_; (with_reducible refine (impl_tick.calls a0 t207 _ ?side1 A4.out).mono ?_); (case side1 => exact Dr.mm HMM); rintro e w6 ⟨rfl, hb⟩; refine ⟨_, rfl, ?_⟩; replace HB := bs hb; (try clear hb)))
  go_ret2
  exact ⟨rs, bw⟩
 ·replace c3 := Bool.eq_false_iff.mpr c3
  subst c3
  rw [if_neg (show ¬ (false = true) by decide)] at H
  simp only [Option.some.injEq, Prod.mk.injEq] at H
  obtain ⟨rfl, rfl⟩ := H
  go_enter Tryz.func16, Tryz.ntmps16
  go_wp2_with (first | ((with_reducible refine gate_callee (f := 40) rfl ?_); refine gl (some 5) Tryz.func40 #[.string a0] ?_; (with_reducible refine (impl_isRow.calls a0 false _ A2.out).mono ?_); rintro e w7 ⟨rfl, hb⟩; refine ⟨_, rfl, ?_⟩; replace HB := bs hb; (try clear hb)))
  go_ret2
  exact ⟨rs, bw⟩

/-! ### spec_TickRow: function 17 -/
def spec_TickRow.f (k : Nat) (a0 : ByteArray) : Option (ByteArray × Bool) := (spec_rwGood.f k a0).bind fun t208 => (if t208 = true then ((spec_rwTick.f k a0).bind fun t209 => (some (t209, true))) else (some ((⟨#[]⟩ : ByteArray), false)))
theorem spec_TickRow.mono : ∀ a0 k, LeO (spec_TickRow.f k a0) (spec_TickRow.f (k + 1) a0) := by
  intro a0 k
  unfold spec_TickRow.f
  repeat' first
      | (with_reducible exact spec_rwGood.mono _ _)
      | (with_reducible exact spec_rwTick.mono _ _)
      | (with_reducible exact LeO.refl _)
      | (with_reducible exact LeO.none _)
      | (with_reducible refine LeO.ite ?_ ?_)
      | (with_reducible refine LeO.bind ?_ (fun _ => ?_))
      | exact spec_rwGood.mono _ _
      | exact spec_rwTick.mono _ _
      | exact LeO.none _
      | refine LeO.ite ?_ ?_
      | refine LeO.bind ?_ (fun _ => ?_)
set_option maxHeartbeats 8000000 in
set_option maxRecDepth 100000 in
theorem spec_TickRow.calls (k : Nat) (a0 : ByteArray) (r1 : ByteArray) (r2 : Bool) (w : World) (h : spec_TickRow.f k a0 = some (r1, r2)) :
  Calls Tryz.prog 17 #[.string a0] w fun e w' => e = .returned (.tuple #[.string r1, .bool r2]) ∧ Below w.heap.size w w' := by
 have HB := Aside0.mk (Below.refl w.heap.size w)
 unfold spec_TickRow.f at h
 have H := h
 clear h
 replace H := Option.bind_eq_some_iff.mp H
 obtain ⟨t208, A20, H⟩ := H
 (try dsimp only at H)
 have A2 := Aside0.mk A20
 clear A20
 by_cases c3 : t208 = true
 ·subst c3
  rw [if_pos rfl] at H
  replace H := Option.bind_eq_some_iff.mp H
  obtain ⟨t209, A40, H⟩ := H
  (try dsimp only at H)
  have A4 := Aside0.mk A40
  clear A40
  simp only [Option.some.injEq, Prod.mk.injEq] at H
  obtain ⟨rfl, rfl⟩ := H
  go_enter Tryz.func17, Tryz.ntmps17
  go_wp2_with (first | ((with_reducible refine gate_callee (f := 42) rfl ?_); refine gl (some 5) Tryz.func42 #[.string a0] ?_; (with_reducible refine (spec_rwGood.calls k a0 true _ A2.out).mono ?_); rintro e w' ⟨rfl, ⟨nd, rfl⟩⟩; refine ⟨_, rfl, ?_⟩) | ((with_reducible refine gate_callee (f := 49) rfl ?_); refine gl (some 8) Tryz.func49 #[.string a0] ?_; (with_reducible refine (spec_rwTick.calls k a0 t209 _ A4.out).mono ?_); rintro e w5 ⟨rfl, hb⟩; refine ⟨_, rfl, ?_⟩; replace HB := bs hb; (try clear hb)))
  go_ret2
  exact ⟨rs, bw⟩
 ·replace c3 := Bool.eq_false_iff.mpr c3
  subst c3
  rw [if_neg (show ¬ (false = true) by decide)] at H
  simp only [Option.some.injEq, Prod.mk.injEq] at H
  obtain ⟨rfl, rfl⟩ := H
  go_enter Tryz.func17, Tryz.ntmps17
  go_wp2_with (first | ((with_reducible refine gate_callee (f := 42) rfl ?_); refine gl (some 5) Tryz.func42 #[.string a0] ?_; (with_reducible refine (spec_rwGood.calls k a0 false _ A2.out).mono ?_); rintro e w' ⟨rfl, ⟨nd, rfl⟩⟩; refine ⟨_, rfl, ?_⟩))
  go_ret2
  exact ⟨rs, bw⟩

/-! ### impl_IsAtRest: function 18 -/
def impl_IsAtRest.f (a0 : ByteArray) : Option (Bool × Bool) := (impl_isRow.f a0).bind fun t210 => (if t210 = true then ((impl_isAtRest.f a0).bind fun t211 => (some (t211, true))) else (some (false, false)))
set_option maxHeartbeats 8000000 in
set_option maxRecDepth 100000 in
theorem impl_IsAtRest.calls (a0 : ByteArray) (r1 : Bool) (r2 : Bool) (w : World) (hm : Dr.Tab w) (h : impl_IsAtRest.f a0 = some (r1, r2)) :
  Calls Tryz.prog 18 #[.string a0] w fun e w' => e = .returned (.tuple #[.bool r1, .bool r2]) ∧ Below w.heap.size w w' := by
 have HB := Aside0.mk (Below.refl w.heap.size w)
 have HMM := Aside0.mk hm
 clear hm
 unfold impl_IsAtRest.f at h
 have H := h
 clear h
 replace H := Option.bind_eq_some_iff.mp H
 obtain ⟨t210, A20, H⟩ := H
 (try dsimp only at H)
 have A2 := Aside0.mk A20
 clear A20
 by_cases c3 : t210 = true
 ·subst c3
  rw [if_pos rfl] at H
  replace H := Option.bind_eq_some_iff.mp H
  obtain ⟨t211, A40, H⟩ := H
  (try dsimp only at H)
  have A4 := Aside0.mk A40
  clear A40
  simp only [Option.some.injEq, Prod.mk.injEq] at H
  obtain ⟨rfl, rfl⟩ := H
  go_enter Tryz.func18, Tryz.ntmps18
  go_wp2_with (first | ((with_reducible refine gate_callee (f := 40) rfl ?_); refine gl (some 5) Tryz.func40 #[.string a0] ?_; (with_reducible refine (impl_isRow.calls a0 true _ A2.out).mono ?_); rintro e w5 ⟨rfl, hb⟩; refine ⟨_, rfl, ?_⟩; replace HB := bs hb; (try clear hb)) | ((with_reducible refine gate_callee (f := 52) rfl ?_); refine gl (some 8) Tryz.func52 #[.string a0] ?_; (with_reducible refine (impl_isAtRest.calls a0 t211 _ ?side1 A4.out).mono ?_); (case side1 => exact Dr.mm HMM); rintro e w' ⟨rfl, ⟨nd, rfl⟩⟩; refine ⟨_, rfl, ?_⟩))
  go_ret2
  exact ⟨rs, bw⟩
 ·replace c3 := Bool.eq_false_iff.mpr c3
  subst c3
  rw [if_neg (show ¬ (false = true) by decide)] at H
  simp only [Option.some.injEq, Prod.mk.injEq] at H
  obtain ⟨rfl, rfl⟩ := H
  go_enter Tryz.func18, Tryz.ntmps18
  go_wp2_with (first | ((with_reducible refine gate_callee (f := 40) rfl ?_); refine gl (some 5) Tryz.func40 #[.string a0] ?_; (with_reducible refine (impl_isRow.calls a0 false _ A2.out).mono ?_); rintro e w6 ⟨rfl, hb⟩; refine ⟨_, rfl, ?_⟩; replace HB := bs hb; (try clear hb)))
  go_ret2
  exact ⟨rs, bw⟩

/-! ### spec_IsAtRest: function 19 -/
def spec_IsAtRest.f (k : Nat) (a0 : ByteArray) : Option (Bool × Bool) := (spec_rwGood.f k a0).bind fun t212 => (if t212 = true then ((spec_rwPairs.f k a0).bind fun t213 => (some (((t213.length : Int) == 0), true))) else (some (false, false)))
theorem spec_IsAtRest.mono : ∀ a0 k, LeO (spec_IsAtRest.f k a0) (spec_IsAtRest.f (k + 1) a0) := by
  intro a0 k
  unfold spec_IsAtRest.f
  repeat' first
      | (with_reducible exact spec_rwGood.mono _ _)
      | (with_reducible exact spec_rwPairs.mono _ _)
      | (with_reducible exact LeO.refl _)
      | (with_reducible exact LeO.none _)
      | (with_reducible refine LeO.ite ?_ ?_)
      | (with_reducible refine LeO.bind ?_ (fun _ => ?_))
      | exact spec_rwGood.mono _ _
      | exact spec_rwPairs.mono _ _
      | exact LeO.none _
      | refine LeO.ite ?_ ?_
      | refine LeO.bind ?_ (fun _ => ?_)
set_option maxHeartbeats 8000000 in
set_option maxRecDepth 100000 in
theorem spec_IsAtRest.calls (k : Nat) (a0 : ByteArray) (r1 : Bool) (r2 : Bool) (w : World) (h : spec_IsAtRest.f k a0 = some (r1, r2)) :
  Calls Tryz.prog 19 #[.string a0] w fun e w' => e = .returned (.tuple #[.bool r1, .bool r2]) ∧ Below w.heap.size w w' := by
 have HB := Aside0.mk (Below.refl w.heap.size w)
 unfold spec_IsAtRest.f at h
 have H := h
 clear h
 replace H := Option.bind_eq_some_iff.mp H
 obtain ⟨t212, A20, H⟩ := H
 (try dsimp only at H)
 have A2 := Aside0.mk A20
 clear A20
 by_cases c3 : t212 = true
 ·subst c3
  rw [if_pos rfl] at H
  replace H := Option.bind_eq_some_iff.mp H
  obtain ⟨t213, A40, H⟩ := H
  (try dsimp only at H)
  have A4 := Aside0.mk A40
  clear A40
  simp only [Option.some.injEq, Prod.mk.injEq] at H
  obtain ⟨rfl, rfl⟩ := H
  go_enter Tryz.func19, Tryz.ntmps19
  go_wp2_with (first | ((with_reducible refine gate_callee (f := 42) rfl ?_); refine gl (some 5) Tryz.func42 #[.string a0] ?_; (with_reducible refine (spec_rwGood.calls k a0 true _ A2.out).mono ?_); rintro e w' ⟨rfl, ⟨nd, rfl⟩⟩; refine ⟨_, rfl, ?_⟩) | ((with_reducible refine gate_callee (f := 48) rfl ?_); refine gl (some 8) Tryz.func48 #[.string a0] ?_; (with_reducible refine (spec_rwPairs.calls k a0 t213 _ A4.out).mono ?_); rintro e w5 ⟨v214, rfl, ho0, hb⟩; refine ⟨_, rfl, ?_⟩; have HO215 := Aside0.mk (Kd.R_lower ho0 (below_size bw)); replace HB := bs hb; (try clear hb); (try clear ho0); obtain ⟨Ao6, co6, eo6⟩ := Kd.R_slice HO215.out; subst eo6))
  go_ret2
  exact ⟨rs, bw⟩
 ·replace c3 := Bool.eq_false_iff.mpr c3
  subst c3
  rw [if_neg (show ¬ (false = true) by decide)] at H
  simp only [Option.some.injEq, Prod.mk.injEq] at H
  obtain ⟨rfl, rfl⟩ := H
  go_enter Tryz.func19, Tryz.ntmps19
  go_wp2_with (first | ((with_reducible refine gate_callee (f := 42) rfl ?_); refine gl (some 5) Tryz.func42 #[.string a0] ?_; (with_reducible refine (spec_rwGood.calls k a0 false _ A2.out).mono ?_); rintro e w' ⟨rfl, ⟨nd, rfl⟩⟩; refine ⟨_, rfl, ?_⟩))
  go_ret2
  exact ⟨rs, bw⟩

/-! ### impl_turned: function 53 -/
def impl_turned.f (a0 : ByteArray) : Option ByteArray := if a0.size < 35184372088832 then some ⟨(Lib.mapD (fun x => 122 - x) a0.data.toList).toArray⟩ else none
theorem impl_turned_clo (x : Nat) (hx : x ≤ 1114111) (W : World) : Calls Tryz.prog 69 (#[.int .i32 (x : Int)] ++ #[]) W fun e w' => e = .returned (.int .i32 (122 - (x : Int))) ∧ Below W.heap.size W w' := by
  have h1 : IntKind.i32.wrap (122 - (x : Int)) = 122 - (x : Int) := by simp [IntKind.wrap, IntKind.bits, IntKind.signed]; omega
  have h2 : wrap32 (122 - (x : Int)) = 122 - (x : Int) := by rw [← i32_w]; exact h1
  show Calls Tryz.prog 69 #[.int .i32 (x : Int)] W _
  go_enter Tryz.func69, Tryz.ntmps69
  go_wp2
  go_ret
  exact ⟨by first | rfl | simp, by repeat (first | exact Below.refl _ _ | apply pw_below_drewN)⟩
theorem impl_turned.calls (a0 : ByteArray) (r : ByteArray) (w : World) (hm : Dr.Tab w) (h : impl_turned.f a0 = some r) :
  Calls Tryz.prog 53 #[.string a0] w fun e w' => e = .returned (.string r) ∧ Below w.heap.size w w' := by
 unfold impl_turned.f at h
 split at h
 ·next hc =>
  obtain rfl := Option.some.inj h
  have HB := Aside0.mk (Below.refl w.heap.size w)
  have HMM := Aside0.mk hm
  clear hm h
  have hmap : ∀ W, Dr.Tab W → Calls Tryz.prog 68 #[.func (.func 69) #[] #[], .string a0] W _ := fun W hW =>
   Any.strings_Map_grows Tryz.lays230 Tryz.Builder_Extra_230 69 #[] (enters_of Tryz.func69 (by kernel_rfl) rfl) (fun x => 122 - x) a0 W hc (fun W' x hx _ => impl_turned_clo x hx W') (fun x hx => by omega) (Dr.Tab.utf8 hW)
  have HMP := Aside0.mk hmap
  clear hmap
  go_enter Tryz.func53, Tryz.ntmps53
  go_wp2_with (first | (go_at_call 68; (refine (HMP.out _ (Dr.mm HMM)).mono ?_); rintro e w1 ⟨rfl, hb⟩; replace HB := bs hb; clear hb))
  go_ret
  exact ⟨by first | rfl | simp, by repeat (first | exact HB.out | apply pw_below_drewN)⟩
 ·cases h

/-! ### impl_MirrorRow: function 20 -/
def impl_MirrorRow.f (a0 : ByteArray) : Option (ByteArray × Bool) := (impl_isRow.f a0).bind fun t => if t = true then (impl_turned.f a0).bind fun y => if y.size ≤ 4294967296 then some (⟨y.data.reverse⟩, true) else none else some (⟨#[]⟩, false)
abbrev impl_MirrorRow_enc : UInt8 → Value := fun b => Value.int .u8 (b.toNat : Int)
theorem impl_MirrorRow_below {B : Nat} {a w : World} (h : Below B a w) {blk : Nat} (hg : B ≤ blk) (n off : Nat) (d : Array UInt8) : Below B a (Sort.putRow impl_MirrorRow_enc (Sort.ahead w n) blk off d) :=
  ⟨h.os, h.tape, h.output, by rw [Sort.size_putRow]; exact h.size, fun k hk => by
    rw [← h.block k hk]
    have : blk ≠ k := by omega
    simp [Sort.putRow, Sort.mapBlock, Array.getElem?_modify, this]⟩
set_option maxHeartbeats 8000000 in
set_option maxRecDepth 1000000 in
theorem impl_MirrorRow_rev (blk off cap : Nat) (d : Array UInt8) (w : World) (hH : Sort.Holds impl_MirrorRow_enc w blk off d) (hsz : d.size ≤ 9223372036854775807) :
    Calls Tryz.prog 54 #[.slice (some ⟨blk, off, none⟩) d.size cap] w fun e w' => e = .returned (.tuple #[]) ∧ ∃ n, w' = Sort.putRow impl_MirrorRow_enc (Sort.ahead w n) blk off d.reverse := by
  have mixed : Tryz.prog.follows Departure.mixedOrders = true := by kernel_rfl
  go_enter Tryz.func54, Tryz.ntmps54
  go_wp2
  go_loopg [2, 3] d.size (fun k s2 s3 wr => ∃ (i jn : Nat) (jz : Int) (dk : Array UInt8) (n : Nat), s2 = .int .i64 i ∧ s3 = .int .i64 jz ∧ ((i : Int) < jz → jz = jn ∧ jn < d.size) ∧ (¬ (i : Int) < jz → ¬ i < jn) ∧ jn - i ≤ k ∧
    dk.size = d.size ∧ wr = Sort.putRow impl_MirrorRow_enc (Sort.ahead w n) blk off dk ∧ Sort.reverseLoop i jn dk = Sort.reverseLoop 0 (d.size - 1) d)
  case atStart => exact ⟨0, d.size - 1, (d.size : Int) - 1, d, 0, rfl, rfl, fun h => ⟨by omega, by omega⟩, fun h => by omega, by omega, rfl, (Sort.putRow_self impl_MirrorRow_enc w blk off d hH).symm, rfl⟩
  case round =>
    obtain ⟨i, jn, jz, dk, n, rfl, rfl, h1, h2, hk, hds, hwr, heq⟩ := hrel
    by_cases hlt : (i : Int) < jz
    · obtain ⟨rfl, hjn⟩ := h1 hlt
      have hij : i < jn := by omega
      have hHk : Sort.Holds impl_MirrorRow_enc wr blk off dk := by rw [hwr]; exact Sort.holds_putRow impl_MirrorRow_enc _ blk off d dk (Sort.holds_ahead impl_MirrorRow_enc w n blk off d hH) hds
      obtain ⟨ci, fi⟩ := hHk i (by omega)
      obtain ⟨cj, fj⟩ := hHk jn (by omega)
      have A : Aside (wr = Sort.putRow impl_MirrorRow_enc (Sort.ahead w n) blk off dk) := hwr
      clear hwr hHk hH h1 h2
      go_wp2_with fail
      go_region_o
      go_wp2
      go_roundg (jn - 1 - (i + 1))
      case measure => omega
      case rel =>
        rw [Sort.reverseLoop, if_pos hij] at heq
        exact ⟨i + 1, jn - 1, (jn : Int) - 1, Sort.swp dk i jn, n + 1, by simp, rfl, fun h => ⟨by omega, by omega⟩, fun h => by omega, Nat.le_refl _, by rw [Sort.size_swp]; exact hds,
          swap_world impl_MirrorRow_enc (by omega) (by omega) A.out (by first | rfl | simp [impl_MirrorRow_enc, getElem!_pos, show jn < dk.size by omega]) (by first | rfl | simp [impl_MirrorRow_enc, getElem!_pos, show i < dk.size by omega]), heq⟩
    · have hnot := h2 hlt
      go_wp2
      go_end0
      refine ⟨rfl, n, ?_⟩
      rw [Sort.reverseLoop, if_neg hnot] at heq
      rw [← Lib.reverseLoop_reverse, ← heq]
theorem impl_MirrorRow_holds (w : World) (y : ByteArray) (cap : Nat) (t : Nat) : Sort.Holds impl_MirrorRow_enc (w.alloc (.cells (bytesRow y cap) t ((bytesRow y cap).size, (bytesRow y cap).size + 1))).drew w.heap.size 0 y.data := by
  intro j hj
  have e : (bytesRow y cap)[j]? = some (impl_MirrorRow_enc y.data[j]!) := by rw [bytesRow_at y cap j hj, getElem!_pos y.data j hj]
  have hlt : j < (bytesRow y cap).size := (Array.getElem?_eq_some_iff.mp e).1
  refine ⟨?_, ?_⟩
  · rw [Nat.zero_add]; exact (World.cell?_alloc_mark w _ t _ j).trans e
  · rw [Nat.zero_add]; refine (World.frozen?_alloc_mark w _ t _ _ j).trans ?_
    simp; omega
theorem impl_MirrorRow_back (w : World) (blk cap n : Nat) (d : Array UInt8) (hn : d.size = n) (h : Sort.Holds impl_MirrorRow_enc w blk 0 d) : (convert 22 9 (.slice (some ⟨blk, 0, none⟩) n cap)).run Tryz.prog w = .ok (.string ⟨d⟩) w := by
  have := run_convert_bytes_back (P := Tryz.prog) w 22 9 5 ⟨blk, 0, none⟩ cap d.toList (by kernel_rfl) (by kernel_rfl) (by kernel_rfl) (fun j hj => by
    have hj' : j < d.size := by simpa using hj
    have e := (h j hj').1
    rw [getElem!_pos d j hj'] at e
    have e9 : (⟨blk, 0, none⟩ : Addr).add j = ⟨blk, 0 + j, none⟩ := by unfold Addr.add; split <;> simp_all
    rw [e9, e]; simp [impl_MirrorRow_enc])
  rw [Array.length_toList, hn, Array.toArray_toList] at this
  exact this
theorem impl_MirrorRow_behind (w w4 w5 : World) (y : ByteArray) (hB : Below w.heap.size w w4) (h : ∃ n, w5 = Sort.putRow impl_MirrorRow_enc (Sort.ahead (w4.alloc (.cells (bytesRow y (grownCap w4 y.size 0 5)) 5 ((bytesRow y (grownCap w4 y.size 0 5)).size, (bytesRow y (grownCap w4 y.size 0 5)).size + 1))).drew n) w4.heap.size 0 y.data.reverse) :
    (convert 22 9 (.slice (some ⟨w4.heap.size, 0, none⟩) y.size (grownCap w4 y.size 0 5))).run Tryz.prog w5 = .ok (.string ⟨y.data.reverse⟩) w5 ∧ Below w.heap.size w w5 := by
  obtain ⟨n, hw⟩ := h
  have hH := Sort.holds_putRow impl_MirrorRow_enc (Sort.ahead _ n) _ 0 y.data y.data.reverse (Sort.holds_ahead impl_MirrorRow_enc _ n _ 0 y.data (impl_MirrorRow_holds w4 y (grownCap w4 y.size 0 5) 5)) (by simp)
  rw [← hw] at hH
  refine ⟨impl_MirrorRow_back w5 _ _ y.size y.data.reverse (by rw [Array.size_reverse]; rfl) hH, ?_⟩
  rw [hw]
  exact impl_MirrorRow_below (below_drew (below_alloc hB _)) hB.size n 0 _
set_option maxHeartbeats 8000000 in
set_option maxRecDepth 100000 in
theorem impl_MirrorRow.calls (a0 : ByteArray) (r1 : ByteArray) (r2 : Bool) (w : World) (hm : Dr.Tab w) (h : impl_MirrorRow.f a0 = some (r1, r2)) :
  Calls Tryz.prog 20 #[.string a0] w fun e w' => e = .returned (.tuple #[.string r1, .bool r2]) ∧ Below w.heap.size w w' := by
 unfold impl_MirrorRow.f at h
 obtain ⟨t, h1, h⟩ := Option.bind_eq_some_iff.mp h
 have A1 := Aside0.mk h1
 have HMM := Aside0.mk hm
 have HB := Aside0.mk (Below.refl w.heap.size w)
 clear h1 hm
 cases t with
 | false =>
  rw [if_neg (by decide)] at h
  simp only [Option.some.injEq, Prod.mk.injEq] at h
  obtain ⟨rfl, rfl⟩ := h
  go_enter Tryz.func20, Tryz.ntmps20
  go_wp2_with ((go_at_call 40; (with_reducible refine (impl_isRow.calls a0 false _ A1.out).mono ?_); rintro e w3 ⟨rfl, hb⟩; replace HB := Aside0.mk (below_step HB.out hb); clear hb))
  go_ret2
  exact ⟨rfl, HB.out⟩
 | true =>
  rw [if_pos rfl] at h
  obtain ⟨y, h2, h⟩ := Option.bind_eq_some_iff.mp h
  split at h
  ·next hy =>
   simp only [Option.some.injEq, Prod.mk.injEq] at h
   obtain ⟨rfl, rfl⟩ := h
   have HY := Aside0.mk h2
   have HZ := Aside0.mk (show y.data.size ≤ 9223372036854775807 by have : y.size = y.data.size := rfl; omega)
   clear h2 hy
   have kc := fun (w : World) => run_bytes_of_string (P := Tryz.prog) w 9 22 5 y (by kernel_rfl) (by kernel_rfl) (by kernel_rfl)
   go_enter Tryz.func20, Tryz.ntmps20
   go_wp2_with (first | (go_at_call 40; (with_reducible refine (impl_isRow.calls a0 true _ A1.out).mono ?_); rintro e w3 ⟨rfl, hb⟩; replace HB := Aside0.mk (below_step HB.out hb); clear hb) | (go_at_call 53; (refine (impl_turned.calls a0 y _ (HMM.out.below HB.out) HY.out).mono ?_); rintro e w4 ⟨rfl, hb⟩; replace HB := Aside0.mk (below_step HB.out hb); clear hb) | (go_at_call 54; (refine (impl_MirrorRow_rev _ _ _ y.data _ (impl_MirrorRow_holds w4 y _ _) HZ.out).mono ?_); rintro e w5 ⟨rfl, hw⟩; have hbh := impl_MirrorRow_behind w w4 w5 y HB.out hw; have kb := hbh.1; have HB5 := Aside0.mk hbh.2; clear hw hbh))
   go_ret2
   exact ⟨rfl, HB5.out⟩
  ·cases h

/-! ### spec_rwOther: function 55 -/
def spec_rwOther.f (a0 : Int) : Option (ByteArray) := if a0 = 60 then (some (⟨#[62]⟩ : ByteArray)) else (some (⟨#[60]⟩ : ByteArray))
set_option maxHeartbeats 8000000 in
set_option maxRecDepth 100000 in
theorem spec_rwOther.calls (a0 : Int) (r : ByteArray) (w : World) (h : spec_rwOther.f a0 = some r) :
  Calls Tryz.prog 55 #[.int .u8 a0] w fun e w' => e = .returned (.string r) ∧ Drawn0 w w' := by
 unfold spec_rwOther.f at h
 have H := h
 clear h
 by_cases c2 : a0 = 60
 ·rw [if_pos c2] at H
  have c2b0 : (a0 == 60) = true := beq_iff_eq.mpr c2
  have c2b1 : (a0 != 60) = false := bne_eq_false_iff_eq.mpr c2
  clear c2
  obtain rfl := Option.some.inj H
  go_enter Tryz.func55, Tryz.ntmps55
  go_wp2
  go_ret
  exact ⟨rs, by repeat (first | exact Drawn0.refl _ | apply Drawn0.step)⟩
 ·rw [if_neg c2] at H
  have c2b0 : (a0 == 60) = false := beq_eq_false_iff_ne.mpr c2
  have c2b1 : (a0 != 60) = true := bne_iff_ne.mpr c2
  obtain rfl := Option.some.inj H
  go_enter Tryz.func55, Tryz.ntmps55
  go_wp2
  go_ret
  exact ⟨rs, by repeat (first | exact Drawn0.refl _ | apply Drawn0.step)⟩

end Go.Proofs.YtolalphffodkdaaGreatDoor.PFnRowsRest
