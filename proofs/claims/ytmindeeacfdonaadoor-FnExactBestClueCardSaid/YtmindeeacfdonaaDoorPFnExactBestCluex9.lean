-- Laid by xprint, a program of this session that runs over the kit's print.
import Derived.Test.YtmindeeacfdonaaDoorPFnExactBestCluex0
import Derived.Test.YtmindeeacfdonaaDoorPFnExactBestCluex8
namespace Go.Proofs.YtmindeeacfdonaaDoor.PFnExactBestClue
open Go.RowKit Go.Proofs.YtmindeeacfdonaaDoorW.PrintWords Go.Proofs.YtmindeeacfdonaaDoorW.PrintLast Go.Proofs.YtmindeeacfdonaaDoorW.PrintMore Go.Proofs.YtmindeeacfdonaaDoor.Sq
attribute [local go_sem] max2_int min2_int max_two min_two max_three min_three max_four min_four   -- for this text's walks alone
set_option linter.unusedVariables false
set_option linter.unusedSimpArgs false

/-! ### impl_rowOf: function 97 -/
def impl_rowOf.l0 : Nat → Int → Int → List Int → Int → Int → Option (ByteArray)
  | 0, _, _, _, _, _ => none
  | k + 1, x0, x1, x5, x10, x11 => if x11 < x10 then (if 0 ≤ x11 then (if x11 < (x5.length : Int) then ((some (x5.set (x11 : Int).toNat 60 : List Int)).bind fun y240 => (if 0 ≤ (wrap64 ((wrap64 (x0 - 1)) - x11)) then (if (Go.bits .and .i64 (shr .i64 x1 (wrap64 ((wrap64 (x0 - 1)) - x11))) 1) = 1 then (impl_rowOf.l0 k x0 x1 (y240.set (x11 : Int).toNat 62) x10 (wrap64 (x11 + 1))) else (impl_rowOf.l0 k x0 x1 y240 x10 (wrap64 (x11 + 1)))) else (none))) else (none)) else (none)) else (some (strOfNums x5))
def impl_rowOf.f (k : Nat) (a0 : Int) (a1 : Int) : Option (ByteArray) := if 0 ≤ a0 then (if (a0 : Int).toNat ≤ 281474976710656 then ((some (List.replicate (a0 : Int).toNat 0 : List Int)).bind fun y237 => (impl_rowOf.l0 k a0 a1 y237 (y237.length : Int) 0)) else (none)) else (none)
theorem impl_rowOf.mono_l : ∀ k, (∀ y0 y1 y2 y3 y4, LeO (impl_rowOf.l0 k y0 y1 y2 y3 y4) (impl_rowOf.l0 (k + 1) y0 y1 y2 y3 y4))
  | 0 => fun _ _ _ _ _ r h => by simp [impl_rowOf.l0] at h
  | k + 1 => by
    have ih0 := impl_rowOf.mono_l k
    · intro y0 y1 y2 y3 y4
      unfold impl_rowOf.l0
      repeat' first
      | (with_reducible exact ih0 _ _ _ _ _)
      | (with_reducible exact LeO.refl _)
      | (with_reducible exact LeO.none _)
      | (with_reducible refine LeO.ite ?_ ?_)
      | (with_reducible refine LeO.bind ?_ (fun _ => ?_))
      | exact ih0 _ _ _ _ _
      | exact LeO.none _
      | refine LeO.ite ?_ ?_
      | refine LeO.bind ?_ (fun _ => ?_)
theorem impl_rowOf.mono : ∀ a0 a1 k, LeO (impl_rowOf.f k a0 a1) (impl_rowOf.f (k + 1) a0 a1) := by
  intro a0 a1 k
  have ih0 := impl_rowOf.mono_l k
  unfold impl_rowOf.f
  repeat' first
      | (with_reducible exact ih0 _ _ _ _ _)
      | (with_reducible exact LeO.refl _)
      | (with_reducible exact LeO.none _)
      | (with_reducible refine LeO.ite ?_ ?_)
      | (with_reducible refine LeO.bind ?_ (fun _ => ?_))
      | exact ih0 _ _ _ _ _
      | exact LeO.none _
      | refine LeO.ite ?_ ?_
      | refine LeO.bind ?_ (fun _ => ?_)
set_option maxHeartbeats 8000000 in
set_option maxRecDepth 100000 in
theorem impl_rowOf.calls (k : Nat) (a0 : Int) (a1 : Int) (r : ByteArray) (w : World) (h : impl_rowOf.f k a0 a1 = some r) :
  Calls Tryd.prog 97 #[.int .i64 a0, .int .i64 a1] w fun e w' => e = .returned (.string r) ∧ Below w.heap.size w w' := by
 have HB := Aside0.mk (Below.refl w.heap.size w)
 unfold impl_rowOf.f at h
 have H := h
 clear h
 by_cases c3 : 0 ≤ a0
 ·rw [if_pos c3] at H
  have c3b0 := eq_true c3
  have c3b1 : decide (0 ≤ a0) = true := decide_eq_true c3
  clear c3
  by_cases c4 : (a0 : Int).toNat ≤ 281474976710656
  ·rw [if_pos c4] at H
   have c4b0 := eq_true c4
   have c4b1 : decide ((a0 : Int).toNat ≤ 281474976710656) = true := decide_eq_true c4
   clear c4
   obtain ⟨y237, hy237⟩ : ∃ y_ : List Int, y_ = (List.replicate (a0 : Int).toNat 0) := ⟨_, rfl⟩
   replace H : (impl_rowOf.l0 k a0 a1 y237 (y237.length : Int) 0) = some r := by first | (rw [hy237]; with_reducible exact H) | (have H2_ := (Option.bind_some _ _).symm.trans H; rw [hy237]; with_reducible exact H2_) | (have H2_ := (Option.bind_some _ _).symm.trans H; with_reducible exact H2_) | with_reducible exact H | (rw [hy237]; exact H) | exact H
   have Ny237 := Aside0.mk hy237
   clear hy237
   have H' := Aside0.mk H
   clear H
   go_enter Tryd.func97, Tryd.ntmps97
   go_wp2_with (first | ((with_reducible refine gate_dst (N := 8) rfl ?_); refine Kd.R_make (Kd.int .u8) _ 5 rfl (N := 8) rfl 82 _ _ rfl a0 rfl rfl Tryd.underlying82 (.int .u8 0) 1 info5 rfl (by decide) (by omega) 0 (ok := fun _ => True) (okp := fun _ => True) rfl (fun _ hk => hk) trivial (of_decide_eq_true (by first | (with_reducible assumption) | assumption)) (Nat.le_trans (Nat.mul_le_mul_right _ (of_decide_eq_true (by first | (with_reducible assumption) | assumption) : a0.toNat ≤ 281474976710656)) (by omega)) (Below.refl _ _) (Nat.le_refl _) ?_; intro v238 w5 ho6 hb hg_ hnew_; clear hg_ hnew_; (first | rw [← Ny237.out] at ho6 | (simp only [Int.reduceToNat] at ho6; rw [← Ny237.out] at ho6)); have HO239 := Aside0.mk (Kd.R_lower ho6 (below_size bw)); replace HB := bs hb; clear hb ho6; obtain ⟨Ao7, co7, eo7⟩ := Kd.R_slice HO239.out; subst eo7))
   go_loopg [11] k (fun kq v11 w' => ∃ (x5_1 : List Int) (x11_1 : Int), v11 = .int .i64 x11_1 ∧ Aside0 (impl_rowOf.l0 kq a0 a1 x5_1 (y237.length : Int) x11_1 = some r) ∧ Aside0 (kq ≤ k) ∧ Aside0 (Kd.R (Kd.int .u8) 5 w' w.heap.size (fun _ => True) (.slice Ao7 y237.length co7) x5_1) ∧ Aside0 (Below w.heap.size w w'))
   case atStart => exact ⟨(y237), (0), (rs), H', ⟨Nat.le_refl _⟩, ⟨pr HO239⟩, ⟨bw⟩⟩
   case round =>
    clear H'
    try clear p2
    try clear c3
    try clear c3b0
    try clear c3b1
    try clear c4
    try clear c4b0
    try clear c4b1
    obtain ⟨x5_1, x11_1, rfl, HA, HK1, HO_5, HB⟩ := hrel
    have hl5_1 := (Kd.R_reads' HO_5.out).1
    rw [hl5_1] at HO_5
    (try simp only [hl5_1])
    cases gk with
    | zero => exact absurd HA.out (by simp [impl_rowOf.l0])
    | succ k1 =>
     have H := HA.out
     clear HA
     simp only [impl_rowOf.l0] at H
     by_cases c8 : x11_1 < (y237.length : Int)
     ·rw [if_pos c8] at H
      have c8b0 : decide (x11_1 < (y237.length : Int)) = true := decide_eq_true c8
      (try (have c8b8 := c8b0; rw [hl5_1] at c8b8))
      clear c8
      by_cases c9 : 0 ≤ x11_1
      ·rw [if_pos c9] at H
       have c9b0 : decide (0 ≤ x11_1) = true := decide_eq_true c9
       clear c9
       by_cases c10 : x11_1 < (x5_1.length : Int)
       ·rw [if_pos c10] at H
        have c10b0 : decide (x11_1 < (x5_1.length : Int)) = true := decide_eq_true c10
        clear c10
        obtain ⟨y240, hy240⟩ : ∃ y_ : List Int, y_ = (x5_1.set (x11_1 : Int).toNat 60) := ⟨_, rfl⟩
        replace H : (if 0 ≤ (wrap64 ((wrap64 (a0 - 1)) - x11_1)) then (if (Go.bits .and .i64 (shr .i64 a1 (wrap64 ((wrap64 (a0 - 1)) - x11_1))) 1) = 1 then (impl_rowOf.l0 k1 a0 a1 (y240.set (x11_1 : Int).toNat 62) (y237.length : Int) (wrap64 (x11_1 + 1))) else (impl_rowOf.l0 k1 a0 a1 y240 (y237.length : Int) (wrap64 (x11_1 + 1)))) else (none)) = some r := by first | (rw [hy240]; with_reducible exact H) | (have H2_ := (Option.bind_some _ _).symm.trans H; rw [hy240]; with_reducible exact H2_) | (have H2_ := (Option.bind_some _ _).symm.trans H; with_reducible exact H2_) | with_reducible exact H | (rw [hy240]; exact H) | exact H
        have Ny240 := Aside0.mk hy240
        clear hy240
        obtain ⟨ji12, hji12⟩ : ∃ j_ : Int, (wrap64 ((wrap64 (a0 - 1)) - x11_1)) = j_ := ⟨_, rfl⟩
        replace H : (if 0 ≤ (ji12) then (if (Go.bits .and .i64 (shr .i64 a1 (ji12)) 1) = 1 then (impl_rowOf.l0 k1 a0 a1 (y240.set (x11_1 : Int).toNat 62) (y237.length : Int) (wrap64 (x11_1 + 1))) else (impl_rowOf.l0 k1 a0 a1 y240 (y237.length : Int) (wrap64 (x11_1 + 1)))) else (none)) = some r := by first | (rw [hji12] at H; exact H) | (simp only [hji12] at H ⊢; exact H)
        have hji12w : (IntKind.i64.wrap ((wrap64 (a0 - 1)) - x11_1)) = ji12 := (i64_w _).trans hji12
        by_cases c13 : 0 ≤ (ji12)
        ·rw [if_pos c13] at H
         have c13b0 := eq_true c13
         have c13b1 : decide (0 ≤ (ji12)) = true := decide_eq_true c13
         clear c13
         obtain ⟨ji14, hji14⟩ : ∃ j_ : Int, (shr .i64 a1 (ji12)) = j_ := ⟨_, rfl⟩
         replace H : (if (Go.bits .and .i64 (ji14) 1) = 1 then (impl_rowOf.l0 k1 a0 a1 (y240.set (x11_1 : Int).toNat 62) (y237.length : Int) (wrap64 (x11_1 + 1))) else (impl_rowOf.l0 k1 a0 a1 y240 (y237.length : Int) (wrap64 (x11_1 + 1)))) = some r := by first | (rw [hji14] at H; exact H) | (simp only [hji14] at H ⊢; exact H)
         have hji14_ : (a1 / 2 ^ min (ji12).toNat 64) = ji14 := hji14
         have hji14z : (ji12) ≤ 64 → (a1 / 2 ^ (ji12).toNat) = ji14 := shr_small hji14
         by_cases c15 : (Go.bits .and .i64 (ji14) 1) = 1
         ·rw [if_pos c15] at H
          have c15b0 : ((Go.bits .and .i64 (ji14) 1) == 1) = true := beq_iff_eq.mpr c15
          have c15b1 : ((Go.bits .and .i64 (ji14) 1) != 1) = false := bne_eq_false_iff_eq.mpr c15
          clear c15
          obtain ⟨y241, hy241⟩ : ∃ y_ : List Int, y_ = (y240.set (x11_1 : Int).toNat 62) := ⟨_, rfl⟩
          replace H : (impl_rowOf.l0 k1 a0 a1 y241 (y237.length : Int) (wrap64 (x11_1 + 1))) = some r := by first | (rw [hy241]; with_reducible exact H) | (have H2_ := (Option.bind_some _ _).symm.trans H; rw [hy241]; with_reducible exact H2_) | (have H2_ := (Option.bind_some _ _).symm.trans H; with_reducible exact H2_) | with_reducible exact H | (rw [hy241]; exact H) | exact H
          have Ny241 := Aside0.mk hy241
          clear hy241
          have H' := Aside0.mk H
          clear H
          have p11 : 0 ≤ (x11_1 : Int) := of_decide_eq_true (by first | (with_reducible assumption) | assumption)
          have q11 : (x11_1 : Int) < ((x5_1.length : Int) : Int) := of_decide_eq_true (by first | (with_reducible assumption) | assumption)
          obtain ⟨go11, co11, eo11, gb11, gl11, cl11, HG11⟩ := Kd.R_form HO_5.out (by omega)
          (first | cases eo11 | (injection eo11 with ea_ en_ ec_; (first | subst ea_ | (injection ea_ with ea_; subst ea_)); subst ec_; clear en_))
          have GB11 := Aside0.mk gb11
          have GG11 := Aside0.mk HG11
          clear gb11 gl11 HG11
          obtain ⟨hx11_0, hf11_0⟩ := Kd.R_celln 0 HO_5.out (x11_1 : Int) p11 q11
          replace p11 := eq_true p11
          replace q11 := eq_true q11
          have HP17 := Kd.R_putg HO_5.out (x11_1 : Int) 60
          go_wp2_with (first | ((with_reducible refine gate_store (t := 5) (p := 16) rfl ?_); refine store_event (t := 5) (p := 16) (v := ?vo_w18) (w1 := (wr.setCell ⟨go11, (x11_1 : Int).toNat, none⟩ (.int .u8 60))) ?hg ?ho ?hn ?hr ?_; (case ho => rfl); (case hg => rfl); (case hn => rfl); (case hr => first | (go_simp; done) | (go_simp; rfl)); intro w18 hw; have hg : wr.grownBy w18 (some go11) := (by rw [hw]; exact HP17.2); have hp_ : Kd.R (Kd.int .u8) 5 w18 w.heap.size (fun _ => True) (.slice (some ⟨go11, 0, none⟩) x5_1.length co7) y240 := (by rw [hw, Ny240.out]; exact HP17.1); clear HP17; replace HO_5 := Aside0.mk (hp_); replace HB := Aside0.mk ((by rw [hw]; exact below_set (HB.out) GB11.out : Below w.heap.size w w18)); clear hg hw hp_; have p16 : 0 ≤ (x11_1 : Int) := of_decide_eq_true (by first | (with_reducible assumption) | assumption); have q16 : (x11_1 : Int) < ((x5_1.length : Int) : Int) := of_decide_eq_true (by first | (with_reducible assumption) | assumption); obtain ⟨hx16_0, hf16_0⟩ := Kd.R_celln 0 HO_5.out (x11_1 : Int) p16 q16; replace p16 := eq_true p16; replace q16 := eq_true q16; obtain ⟨hy19_, hz19_⟩ := Kd.R_celln 0 HO_5.out (x11_1 : Int) (of_decide_eq_true (by first | (with_reducible assumption) | assumption)) (of_decide_eq_true (by first | (with_reducible assumption) | assumption)); have HP19 := Kd.R_putg HO_5.out (x11_1 : Int) 62) | ((with_reducible refine gate_store (t := 5) (p := 27) rfl ?_); refine store_event (t := 5) (p := 27) (v := ?vo_w20) (w1 := (w18.setCell ⟨go11, (x11_1 : Int).toNat, none⟩ (.int .u8 62))) ?hg ?ho ?hn ?hr ?_; (case ho => rfl); (case hg => rfl); (case hn => rfl); (case hr => first | (go_simp; done) | (go_simp; rfl)); intro w20 hw; have hg : w18.grownBy w20 (some go11) := (by rw [hw]; exact HP19.2); have hp_ : Kd.R (Kd.int .u8) 5 w20 w.heap.size (fun _ => True) (.slice (some ⟨go11, 0, none⟩) x5_1.length co7) y241 := (by rw [hw, Ny241.out]; exact HP19.1); clear HP19; replace HO_5 := Aside0.mk (hp_); replace HB := Aside0.mk ((by rw [hw]; exact below_set (HB.out) GB11.out : Below w.heap.size w w20)); clear hg hw hp_))
          (try simp only [← hl5_1])
          go_roundg k1
          case measure => have := HK1.out; omega
          case rel => exact ⟨(y241), (wrap64 (x11_1 + 1)), (rs), H', ⟨by have := HK1.out; omega⟩, ⟨by (try simp only [hl5_1]); (with_reducible repeat (first | apply Kd.R_alloc | apply Kd.R_drewN | apply Kd.R_drew)); exact HO_5.out⟩, ⟨bw⟩⟩
         ·rw [if_neg c15] at H
          have c15b0 : ((Go.bits .and .i64 (ji14) 1) == 1) = false := beq_eq_false_iff_ne.mpr c15
          have c15b1 : ((Go.bits .and .i64 (ji14) 1) != 1) = true := bne_iff_ne.mpr c15
          have H' := Aside0.mk H
          clear H
          have p11 : 0 ≤ (x11_1 : Int) := of_decide_eq_true (by first | (with_reducible assumption) | assumption)
          have q11 : (x11_1 : Int) < ((x5_1.length : Int) : Int) := of_decide_eq_true (by first | (with_reducible assumption) | assumption)
          obtain ⟨go11, co11, eo11, gb11, gl11, cl11, HG11⟩ := Kd.R_form HO_5.out (by omega)
          (first | cases eo11 | (injection eo11 with ea_ en_ ec_; (first | subst ea_ | (injection ea_ with ea_; subst ea_)); subst ec_; clear en_))
          have GB11 := Aside0.mk gb11
          have GG11 := Aside0.mk HG11
          clear gb11 gl11 HG11
          obtain ⟨hx11_0, hf11_0⟩ := Kd.R_celln 0 HO_5.out (x11_1 : Int) p11 q11
          replace p11 := eq_true p11
          replace q11 := eq_true q11
          have HP21 := Kd.R_putg HO_5.out (x11_1 : Int) 60
          go_wp2_with (first | ((with_reducible refine gate_store (t := 5) (p := 16) rfl ?_); refine store_event (t := 5) (p := 16) (v := ?vo_w22) (w1 := (wr.setCell ⟨go11, (x11_1 : Int).toNat, none⟩ (.int .u8 60))) ?hg ?ho ?hn ?hr ?_; (case ho => rfl); (case hg => rfl); (case hn => rfl); (case hr => first | (go_simp; done) | (go_simp; rfl)); intro w22 hw; have hg : wr.grownBy w22 (some go11) := (by rw [hw]; exact HP21.2); have hp_ : Kd.R (Kd.int .u8) 5 w22 w.heap.size (fun _ => True) (.slice (some ⟨go11, 0, none⟩) x5_1.length co7) y240 := (by rw [hw, Ny240.out]; exact HP21.1); clear HP21; replace HO_5 := Aside0.mk (hp_); replace HB := Aside0.mk ((by rw [hw]; exact below_set (HB.out) GB11.out : Below w.heap.size w w22)); clear hg hw hp_))
          (try simp only [← hl5_1])
          go_roundg k1
          case measure => have := HK1.out; omega
          case rel => exact ⟨(y240), (wrap64 (x11_1 + 1)), (rs), H', ⟨by have := HK1.out; omega⟩, ⟨by (try simp only [hl5_1]); (with_reducible repeat (first | apply Kd.R_alloc | apply Kd.R_drewN | apply Kd.R_drew)); exact HO_5.out⟩, ⟨bw⟩⟩
        ·rw [if_neg c13] at H
         exact absurd H (by simp)
       ·rw [if_neg c10] at H
        exact absurd H (by simp)
      ·rw [if_neg c9] at H
       exact absurd H (by simp)
     ·rw [if_neg c8] at H
      have c8b0 : decide (x11_1 < (y237.length : Int)) = false := decide_eq_false c8
      (try (have c8b8 := c8b0; rw [hl5_1] at c8b8))
      clear c8
      obtain rfl := Option.some.inj H
      have hcv23 := own_string (P := Tryd.prog) Tryd.underlying82 Tryd.underlying5 Tryd.underlying9 (Kd.own_of_R HO_5.out)
      go_wp2
      go_ret
      exact ⟨rs, bw⟩
  ·rw [if_neg c4] at H
   exact absurd H (by simp)
 ·rw [if_neg c3] at H
  exact absurd H (by simp)

/-! ### impl_solutions: function 77 -/
def impl_solutions_clo.f (k : Nat) (s0 : ByteArray) (x0 : Int) (x1 : Int) (x2 : Int) (x3 : Int) : Option Bool := (impl_Clue_fits.f k x0 x1 x2 x3 s0).bind fun t => some (!t)
theorem impl_solutions_clo.mono : ∀ s0 x0 x1 x2 x3 k, LeO (impl_solutions_clo.f k s0 x0 x1 x2 x3) (impl_solutions_clo.f (k + 1) s0 x0 x1 x2 x3) := by
  intro s0 x0 x1 x2 x3 k
  unfold impl_solutions_clo.f
  exact LeO.bind (impl_Clue_fits.mono _ _ _ _ _ k) (fun _ => LeO.refl _)
set_option maxHeartbeats 8000000 in
set_option maxRecDepth 100000 in
theorem impl_solutions_clo.calls (k : Nat) (g : Nat) (s0 : ByteArray) (x0 : Int) (x1 : Int) (x2 : Int) (x3 : Int) (r : Bool) (w : World) (hm : Dr.Tab w) (hg0 : w.cell? ⟨g, 0, none⟩ = some (.string s0)) (h : impl_solutions_clo.f k s0 x0 x1 x2 x3 = some r) :
  Calls Tryd.prog 98 (#[.agg #[.int .i64 x0, .int .i64 x1, .int .i64 x2, .int .i64 x3]] ++ #[.pointer (some ⟨g, 0, none⟩)]) w fun e w' => e = .returned (.bool r) ∧ Below w.heap.size w w' := by
 have hu := Tryd.underlying33
 have HB := Aside0.mk (Below.refl w.heap.size w)
 have HG0 := Aside0.mk hg0
 have HMM := Aside0.mk hm
 clear hg0 hm
 replace h := Option.bind_eq_some_iff.mp h
 obtain ⟨t, A0, H⟩ := h
 have A1 := Aside0.mk A0
 clear A0
 obtain rfl := Option.some.inj H
 clear H
 show Calls Tryd.prog 98 #[.agg #[.int .i64 x0, .int .i64 x1, .int .i64 x2, .int .i64 x3], .pointer (some ⟨g, 0, none⟩)] w _
 go_enter Tryd.func98, Tryd.ntmps98
 go_wp2_with (first | ((with_reducible refine gate_dst (N := 2) rfl ?_); refine box_event ?hg (N := 2) ?hd (cs := #[.int .i64 x0, .int .i64 x1, .int .i64 x2, .int .i64 x3]) (t := 33) ?hr ?_; (case hd => rfl); (case hg => rfl); (case hr => first | (go_simp; done) | (go_simp; rfl)); intro gb hg w8 hbox hb; have n0_ := Aside0.mk (below_step (by repeat (first | exact HB.out | apply pw_below_drewN)) hb); have n1_ := Aside0.mk hbox; have hcg0 : w8.cell? ⟨g, 0, none⟩ = some (.string s0) := (hb.cell (World.block_lt_of_cell? w _ HG0.out)).trans HG0.out; have hcz0 : w8.cell? ⟨gb, 0, none⟩ = some (.int .i64 x0) := (blk_cell n1_.out 0).trans rfl; have hcz1 : w8.cell? ⟨gb, 1, none⟩ = some (.int .i64 x1) := (blk_cell n1_.out 1).trans rfl; have hcz2 : w8.cell? ⟨gb, 2, none⟩ = some (.int .i64 x2) := (blk_cell n1_.out 2).trans rfl; have hcz3 : w8.cell? ⟨gb, 3, none⟩ = some (.int .i64 x3) := (blk_cell n1_.out 3).trans rfl; clear HB; have HB := n0_; have BK1 := n1_; clear n0_ n1_ hb hbox hg) | (go_at_call 60; (with_reducible refine (impl_Clue_fits.calls k x0 x1 x2 x3 s0 t _ (HMM.out.below HB.out) A1.out).mono ?_); rintro e w' ⟨rfl, hb⟩; have n0_ := Aside0.mk (below_step HB.out hb); clear HB; have HB := n0_; clear n0_ hb))
 go_ret
 exact ⟨by first | rfl | simp, by repeat (first | exact HB.out | apply pw_below_drewN)⟩
def impl_solutions_idx.l0 : Nat → ByteArray → List (S33) → Int → Option Int
  | 0, _, _, _ => none
  | k + 1, s0, l, i => if i < (l.length : Int) then (if 0 ≤ i then ((impl_solutions_clo.f k s0 (rd_T33 l i).f0 (rd_T33 l i).f1 (rd_T33 l i).f2 (rd_T33 l i).f3).bind fun t => (if t = true then (some i) else (impl_solutions_idx.l0 k s0 l (wrap64 (i + 1))))) else none) else (some (-1))
theorem impl_solutions_idx.mono_l : ∀ k, (∀ y0 y1 y2, LeO (impl_solutions_idx.l0 k y0 y1 y2) (impl_solutions_idx.l0 (k + 1) y0 y1 y2))
  | 0 => fun _ _ _ r h => by simp [impl_solutions_idx.l0] at h
  | k + 1 => by
    have ih0 := impl_solutions_idx.mono_l k
    · intro y0 y1 y2
      unfold impl_solutions_idx.l0
      repeat' first
      | (with_reducible exact ih0 _ _ _)
      | (with_reducible exact impl_solutions_clo.mono _ _ _ _ _ _)
      | (with_reducible exact LeO.refl _)
      | (with_reducible exact LeO.none _)
      | (with_reducible refine LeO.ite ?_ ?_)
      | (with_reducible refine LeO.bind ?_ (fun _ => ?_))
set_option maxHeartbeats 8000000 in
set_option maxRecDepth 100000 in
theorem impl_solutions_idx.calls (k : Nat) (g : Nat) (s0 : ByteArray) (A0 : Option Addr) (c0 : Nat) (l0 : List (S33)) (r : Int) (w : World) (hr0 : Kd.C k33 w A0 l0.length l0) (hc0 : l0.length ≤ c0) (hm : Dr.Tab w) (hg0 : w.cell? ⟨g, 0, none⟩ = some (.string s0)) (h : impl_solutions_idx.l0 k s0 l0 0 = some r) :
  Calls Tryd.prog 121 #[.slice A0 l0.length c0, .func (.func 98) #[] #[.pointer (some ⟨g, 0, none⟩)]] w fun e w' => e = .returned (.int .i64 r) ∧ Below w.heap.size w w' := by
 have hu := Tryd.underlying33
 have HR0 := Aside0.mk hr0
 have HC0 := Aside0.mk hc0
 clear hr0 hc0
 have HG0 := Aside0.mk hg0
 have HMM := Aside0.mk hm
 clear hg0 hm
 have HB := Aside0.mk (Below.refl w.heap.size w)
 have H' := Aside0.mk h
 clear h
 go_enter Tryd.func121, Tryd.ntmps121
 go_wp2
 go_loopg [8] k (fun kq v8 w' => ∃ (x8 : Int), v8 = .int .i64 x8 ∧ Aside0 (impl_solutions_idx.l0 kq s0 l0 x8 = some r) ∧ Aside0 (kq ≤ k) ∧ Aside0 (Below w.heap.size w w'))
 case atStart => exact ⟨(0), (rs), H', ⟨Nat.le_refl _⟩, HB⟩
 case round =>
  clear H' HB
  obtain ⟨x8, rfl, HA, HK1, HB⟩ := hrel
  cases gk with
  | zero => exact absurd HA.out (by simp [impl_solutions_idx.l0])
  | succ k1 =>
   have H := HA.out
   clear HA
   simp only [impl_solutions_idx.l0] at H
   by_cases c4 : x8 < (l0.length : Int)
   ·rw [if_pos c4] at H
    have c4b0 : decide (x8 < (l0.length : Int)) = true := decide_eq_true c4
    by_cases c5 : 0 ≤ x8
    ·rw [if_pos c5] at H
     have c5b0 : decide (0 ≤ x8) = true := decide_eq_true c5
     replace H := Option.bind_eq_some_iff.mp H
     obtain ⟨t1, A0', H⟩ := H
     have A1 := Aside0.mk A0'
     clear A0'
     obtain ⟨ad, e1, hx0, hx1, hx2, hx3⟩ := at_T33 HR0.out x8 c5 c4
     cases e1
     replace hx0 := (HB.out.cell (World.block_lt_of_cell? w _ hx0)).trans hx0
     replace hx1 := (HB.out.cell (World.block_lt_of_cell? w _ hx1)).trans hx1
     replace hx2 := (HB.out.cell (World.block_lt_of_cell? w _ hx2)).trans hx2
     replace hx3 := (HB.out.cell (World.block_lt_of_cell? w _ hx3)).trans hx3
     have p1 := eq_true c5
     have q1 := eq_true c4
     clear c4 c5
     cases t1 with
     | true =>
      obtain rfl := Option.some.inj H
      clear H
      go_wp2_with (((with_reducible refine gate_dst (N := 16) rfl ?_); refine Fv.goesV_ (some 16) rfl rfl Tryd.func98 (by kernel_rfl) rfl #[.agg #[.int .i64 (rd_T33 l0 x8).f0, .int .i64 (rd_T33 l0 x8).f1, .int .i64 (rd_T33 l0 x8).f2, .int .i64 (rd_T33 l0 x8).f3]] rfl (by first | rfl | (go_simp; done)) (by first | rfl | (go_simp; done)) ?_; (refine (impl_solutions_clo.calls _ g s0 _ _ _ _ _ _ (HMM.out.below HB.out) ((HB.out.cell (World.block_lt_of_cell? w _ HG0.out)).trans HG0.out) A1.out).mono ?_); rintro e w' ⟨rfl, hb⟩; refine ⟨_, rfl, ?_⟩; have n0_ := Aside0.mk (below_step HB.out hb); clear HB; have HB := n0_; clear n0_ hb))
      go_ret
      exact ⟨by first | rfl | simp, HB.out⟩
     | false =>
      have H' := Aside0.mk (show impl_solutions_idx.l0 k1 s0 l0 (wrap64 (x8 + 1)) = some r from by simpa using H)
      clear H
      go_wp2_with (((with_reducible refine gate_dst (N := 16) rfl ?_); refine Fv.goesV_ (some 16) rfl rfl Tryd.func98 (by kernel_rfl) rfl #[.agg #[.int .i64 (rd_T33 l0 x8).f0, .int .i64 (rd_T33 l0 x8).f1, .int .i64 (rd_T33 l0 x8).f2, .int .i64 (rd_T33 l0 x8).f3]] rfl (by first | rfl | (go_simp; done)) (by first | rfl | (go_simp; done)) ?_; (refine (impl_solutions_clo.calls _ g s0 _ _ _ _ _ _ (HMM.out.below HB.out) ((HB.out.cell (World.block_lt_of_cell? w _ HG0.out)).trans HG0.out) A1.out).mono ?_); rintro e w' ⟨rfl, hb⟩; refine ⟨_, rfl, ?_⟩; have n0_ := Aside0.mk (below_step HB.out hb); clear HB; have HB := n0_; clear n0_ hb))
      go_roundg k1
      case measure => have := HK1.out; omega
      case rel => exact ⟨(wrap64 (x8 + 1)), (rs), H', ⟨by have := HK1.out; omega⟩, HB⟩
    ·rw [if_neg c5] at H
     exact absurd H (by simp)
   ·rw [if_neg c4] at H
    have c4b0 : decide (x8 < (l0.length : Int)) = false := decide_eq_false c4
    clear c4
    obtain rfl := Option.some.inj H
    clear H
    go_wp2
    go_ret
    exact ⟨by first | rfl | simp, HB.out⟩
def impl_solutions_has.f (k : Nat) (s0 : ByteArray) (l : List (S33)) : Option Bool := (impl_solutions_idx.l0 k s0 l 0).bind fun i => some (decide (0 ≤ i))
theorem impl_solutions_has.mono : ∀ s0 a0 k, LeO (impl_solutions_has.f k s0 a0) (impl_solutions_has.f (k + 1) s0 a0) := by
  intro s0 a0 k
  unfold impl_solutions_has.f
  repeat' first
      | (with_reducible exact impl_solutions_idx.mono_l k _ _ _)
      | (with_reducible exact LeO.refl _)
      | (with_reducible exact LeO.none _)
      | (with_reducible refine LeO.ite ?_ ?_)
      | (with_reducible refine LeO.bind ?_ (fun _ => ?_))
set_option maxHeartbeats 8000000 in
set_option maxRecDepth 100000 in
theorem impl_solutions_has.calls (k : Nat) (g : Nat) (s0 : ByteArray) (A0 : Option Addr) (c0 : Nat) (l0 : List (S33)) (r : Bool) (w : World) (hr0 : Kd.C k33 w A0 l0.length l0) (hc0 : l0.length ≤ c0) (hm : Dr.Tab w) (hg0 : w.cell? ⟨g, 0, none⟩ = some (.string s0)) (h : impl_solutions_has.f k s0 l0 = some r) :
  Calls Tryd.prog 95 #[.slice A0 l0.length c0, .func (.func 98) #[] #[.pointer (some ⟨g, 0, none⟩)]] w fun e w' => e = .returned (.bool r) ∧ Below w.heap.size w w' := by
 have HR0 := Aside0.mk hr0
 have HC0 := Aside0.mk hc0
 clear hr0 hc0
 have HG0 := Aside0.mk hg0
 have HMM := Aside0.mk hm
 clear hg0 hm
 have HB := Aside0.mk (Below.refl w.heap.size w)
 replace h := Option.bind_eq_some_iff.mp h
 obtain ⟨t, A0', H⟩ := h
 have A1 := Aside0.mk A0'
 clear A0'
 obtain rfl := Option.some.inj H
 clear H
 go_enter Tryd.func95, Tryd.ntmps95
 go_wp2_with (go_at_call 121; (refine (impl_solutions_idx.calls k g s0 A0 c0 l0 t _ HR0.out HC0.out HMM.out HG0.out A1.out).mono ?_); rintro e w' ⟨rfl, hb⟩; have n0_ := Aside0.mk (below_step HB.out hb); clear HB; have HB := n0_; clear n0_ hb)
 go_ret
 exact ⟨by first | rfl | simp, HB.out⟩
def impl_solutions.l0 : Nat → Int → List S33 → List ByteArray → Int → Int → Option (List ByteArray)
  | 0, _, _, _, _, _ => none
  | k + 1, s, l, o, m, n => if n < m then ((impl_rowOf.f k s n).bind fun row => (impl_solutions_has.f k row l).bind fun t => (if t = true then impl_solutions.l0 k s l o m (wrap64 (n + 1)) else (if o.length < 8796093022208 then impl_solutions.l0 k s l (o ++ [row]) m (wrap64 (n + 1)) else none))) else some o
theorem impl_solutions.mono_l : ∀ k, (∀ y0 y1 y2 y3 y4, LeO (impl_solutions.l0 k y0 y1 y2 y3 y4) (impl_solutions.l0 (k + 1) y0 y1 y2 y3 y4))
  | 0 => fun _ _ _ _ _ r h => by simp [impl_solutions.l0] at h
  | k + 1 => by
    have ih0 := impl_solutions.mono_l k
    · intro y0 y1 y2 y3 y4
      unfold impl_solutions.l0
      repeat' first
      | (with_reducible exact ih0 _ _ _ _ _)
      | (with_reducible exact impl_solutions_has.mono _ _ _)
      | (with_reducible exact impl_rowOf.mono _ _ _)
      | (with_reducible exact LeO.refl _)
      | (with_reducible exact LeO.none _)
      | (with_reducible refine LeO.ite ?_ ?_)
      | (with_reducible refine LeO.bind ?_ (fun _ => ?_))
def impl_solutions.f (k : Nat) (a0 : Int) (l1 : List S33) : Option (List ByteArray) := if 0 ≤ a0 then impl_solutions.l0 k a0 l1 [] (shl .i64 1 a0) 0 else none
theorem impl_solutions.mono : ∀ a0 a1 k, LeO (impl_solutions.f k a0 a1) (impl_solutions.f (k + 1) a0 a1) := by
  intro a0 a1 k
  unfold impl_solutions.f
  exact LeO.ite (impl_solutions.mono_l k _ _ _ _ _) (LeO.none _)
set_option maxHeartbeats 8000000 in
set_option maxRecDepth 100000 in
theorem impl_solutions.calls (k : Nat) (a0 : Int) (A1 : Option Addr) (c1 : Nat) (l1 : List (S33)) (r : List ByteArray) (w : World) (hm : Dr.Tab w) (hr1 : Kd.C k33 w A1 l1.length l1) (hc1 : l1.length ≤ c1) (h : impl_solutions.f k a0 l1 = some r) :
  Calls Tryd.prog 77 #[.int .i64 a0, .slice A1 l1.length c1] w fun e w' => ∃ v0_ : Value, e = .returned (v0_) ∧ Kd.R Kd.string 9 w' w.heap.size (fun _ => True) v0_ r ∧ Below w.heap.size w w' := by
 have hu := Tryd.underlying33
 have HR1 := Aside0.mk hr1
 have HC1 := Aside0.mk hc1
 have HMM := Aside0.mk hm
 clear hr1 hc1 hm
 have HB := Aside0.mk (Below.refl w.heap.size w)
 unfold impl_solutions.f at h
 by_cases c3 : 0 ≤ a0
 ·rw [if_pos c3] at h
  have c3b0 := eq_true c3
  have c3b1 : decide (0 ≤ a0) = true := decide_eq_true c3
  have c3b2 : decide (a0 < 0) = false := decide_eq_false (by omega)
  clear c3
  obtain ⟨m, hm⟩ : ∃ j_ : Int, (shl .i64 1 a0) = j_ := ⟨_, rfl⟩
  rw [hm] at h
  have hji4_ : (IntKind.i64.wrap (1 * 2 ^ min a0.toNat 64)) = m := hm
  have hji4z : a0 ≤ 64 → (IntKind.i64.wrap (1 * 2 ^ a0.toNat)) = m := shl_small hm
  have hji4u : (IntKind.i64.wrap (2 ^ min a0.toNat 64)) = m := by have h_ := hji4_; rw [Int.one_mul] at h_; exact h_
  have hji4v : a0 ≤ 64 → (IntKind.i64.wrap (2 ^ a0.toNat)) = m := fun hle_ => by have h_ := hji4z hle_; rw [Int.one_mul] at h_; exact h_
  have hji4y : (wrap64 (1 * 2 ^ min a0.toNat 64)) = m := (i64_w _).symm.trans hji4_
  have hji4x : a0 ≤ 64 → (wrap64 (1 * 2 ^ a0.toNat)) = m := fun h_ => (i64_w _).symm.trans (hji4z h_)
  clear hm
  have H' := Aside0.mk h
  clear h
  go_enter Tryd.func77, Tryd.ntmps77
  go_wp2_with (first | ((with_reducible refine gate_dst (N := 8) rfl ?_); refine Kd.R_lit Kd.string _ 9 ?hg (N := 8) ?hd (xs := ([] : List ByteArray)) (inner := []) (ok := fun _ => True) (okp := fun _ => True) ?hr ?hp (fun _ hk => hk) trivial (Below.refl _ _) (Nat.le_refl _) (by simp) ?_; (case hd => rfl); (case hg => rfl); (case hr => first | (go_simp; done) | (go_simp; rfl)); (case hp => exact (Reps.none _ _)); intro v172 w2 ho3 hb hg_ hnew_; clear hg_ hnew_; have HO := Aside0.mk (Kd.R_lower ho3 (below_size HB.out)); replace HB := Aside0.mk (below_step HB.out hb); clear hb ho3))
  go_loopg [5, 11] k (fun kq v5 v11 w' => ∃ (o : List ByteArray) (n : Int), v11 = .int .i64 n ∧ Aside0 (impl_solutions.l0 kq a0 l1 o m n = some r) ∧ Aside0 (kq ≤ k) ∧ Aside0 (Kd.R Kd.string 9 w' w.heap.size (fun _ => True) v5 o) ∧ Aside0 (Below w.heap.size w w'))
  case atStart => exact ⟨[], 0, rfl, H', ⟨Nat.le_refl _⟩, HO, HB⟩
  case round =>
   clear H' HB HO
   obtain ⟨o, n, rfl, HA, HK1, HO, HB⟩ := hrel
   cases gk with
   | zero => exact absurd HA.out (by simp [impl_solutions.l0])
   | succ k1 =>
    have H := HA.out
    clear HA
    simp only [impl_solutions.l0] at H
    by_cases c5 : n < m
    ·rw [if_pos c5] at H
     have c5b0 : decide (n < m) = true := decide_eq_true c5
     clear c5
     obtain ⟨row, A0, H⟩ := Option.bind_eq_some_iff.mp H
     have A1 := Aside0.mk A0
     clear A0
     obtain ⟨t, A0, H⟩ := Option.bind_eq_some_iff.mp H
     have A2 := Aside0.mk A0
     clear A0
     cases t with
     | true =>
      rw [if_pos rfl] at H
      have H' := Aside0.mk H
      clear H
      go_wp2_with (first | (go_at_call 97; (with_reducible refine (impl_rowOf.calls k1 a0 n row _ A1.out).mono ?_); rintro e w3 ⟨rfl, hb⟩; replace HO := Aside0.mk (Kd.R_below HO.out hb); replace HB := Aside0.mk (below_step HB.out hb); clear hb) | (go_at_call 95; (refine (impl_solutions_has.calls k1 w3.heap.size row _ c1 l1 true _ (Kd.C_below HR1.out (below_alloc HB.out _)) HC1.out (HMM.out.below (below_alloc HB.out _)) ((blk_cell (blk_new w3 _) 0).trans rfl) A2.out).mono ?_); rintro e w4 ⟨rfl, hb⟩; have hc7 : w4.cell? ⟨w3.heap.size, 0, none⟩ = some (.string row) := (blk_cell (blk_below (blk_new w3 _) hb) 0).trans rfl; replace HO := Aside0.mk (Kd.R_below (Kd.R_alloc HO.out _) hb); replace HB := Aside0.mk (below_step (below_alloc HB.out _) hb); clear hb))
      go_roundg k1
      case measure => have := HK1.out; omega
      case rel => exact ⟨o, (wrap64 (n + 1)), (rs), H', ⟨by have := HK1.out; omega⟩, HO, HB⟩
     | false =>
      rw [if_neg (by decide)] at H
      by_cases c6 : o.length < 8796093022208
      ·rw [if_pos c6] at H
       have LM := Aside0.mk c6
       clear c6
       have H' := Aside0.mk H
       clear H
       go_wp2_with (first | (go_at_call 97; (with_reducible refine (impl_rowOf.calls k1 a0 n row _ A1.out).mono ?_); rintro e w3 ⟨rfl, hb⟩; replace HO := Aside0.mk (Kd.R_below HO.out hb); replace HB := Aside0.mk (below_step HB.out hb); clear hb) | (go_at_call 95; (refine (impl_solutions_has.calls k1 w3.heap.size row _ c1 l1 false _ (Kd.C_below HR1.out (below_alloc HB.out _)) HC1.out (HMM.out.below (below_alloc HB.out _)) ((blk_cell (blk_new w3 _) 0).trans rfl) A2.out).mono ?_); rintro e w4 ⟨rfl, hb⟩; have hc7 : w4.cell? ⟨w3.heap.size, 0, none⟩ = some (.string row) := (blk_cell (blk_below (blk_new w3 _) hb) 0).trans rfl; replace HO := Aside0.mk (Kd.R_below (Kd.R_alloc HO.out _) hb); replace HB := Aside0.mk (below_step (below_alloc HB.out _) hb); clear hb) | ((with_reducible refine gate_builtin (b := .append) (xs := #[.tmp 21, .tmp 23]) rfl ?_); at_builtin; refine Kd.R_append Kd.string (w0 := w) w.heap.size rfl (.tmp 21) (.tmp 23) 60 9 (.string ⟨#[]⟩) 16 rfl Tryd.underlying60 info9 rfl (by decide) (by omega) u5 o row [.string row] (fun _ => True) (fun _ => False) rfl rfl ?aP (fun _ hk => hk.elim) ?aF ?aO ?aB ?aS ?aL ?_; (case aP => exact rfl); (case aB => repeat (first | exact HB.out | apply below_alloc)); (case aF => exact (fun _ _ => trivial)); (case aO => (with_reducible repeat (first | apply Kd.R_alloc | apply Kd.R_drewN | apply Kd.R_drew)); exact HO.out); (case aS => exact (below_size (by repeat (first | exact HB.out | apply below_alloc)))); (case aL => have := LM.out; omega); intro v164 w19 ho hb hg hat; clear HB HO; have HB := Aside0.mk hb; have HO := Aside0.mk ho; clear ho hb hg hat))
       go_roundg k1
       case measure => have := HK1.out; omega
       case rel => exact ⟨_, (wrap64 (n + 1)), (rs), H', ⟨by have := HK1.out; omega⟩, HO, HB⟩
      ·rw [if_neg c6] at H
       exact absurd H (by simp)
    ·rw [if_neg c5] at H
     have c5b0 : decide (n < m) = false := decide_eq_false c5
     clear c5
     obtain rfl := Option.some.inj H
     clear H
     go_wp2
     go_ret
     exact ⟨_, rfl, HO.out, HB.out⟩
 ·rw [if_neg c3] at h
  exact absurd h (by simp)

end Go.Proofs.YtmindeeacfdonaaDoor.PFnExactBestClue
