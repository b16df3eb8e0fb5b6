-- Laid by xprint, a program of this session that runs over the kit's print.
import Derived.Test.YtfaakdokcldnkaaGreatDoorPFnRowsGuessedOfAllx3
namespace Go.Proofs.YtfaakdokcldnkaaGreatDoor.PFnRowsGuessedOfAll
open Go.RowKit Go.Proofs.YtfaakdokcldnkaaGreatDoorW.PrintWords Go.Proofs.YtfaakdokcldnkaaGreatDoorW.PrintLast Go.Proofs.YtfaakdokcldnkaaGreatDoorW.PrintMore Go.Proofs.YtfaakdokcldnkaaGreatDoor.Sq
attribute [local go_sem] max2_int min2_int max_two min_two max_three min_three max_four min_four   -- for this text's walks alone
set_option linter.unusedVariables false
set_option linter.unusedSimpArgs false

/-! ### impl_rowOf: function 53 -/
def impl_rowOf.l0 : Nat → Int → Int → List Int → Int → Int → Option (ByteArray)
  | 0, _, _, _, _, _ => none
  | k + 1, x0, x1, x5, x10, x11 => if x11 < x10 then (if 0 ≤ x11 then (if x11 < (x5.length : Int) then ((some (x5.set (x11 : Int).toNat 60 : List Int)).bind fun y148 => (if 0 ≤ (wrap64 ((wrap64 (x0 - 1)) - x11)) then (if (Go.bits .and .i64 (shr .i64 x1 (wrap64 ((wrap64 (x0 - 1)) - x11))) 1) = 1 then (impl_rowOf.l0 k x0 x1 (y148.set (x11 : Int).toNat 62) x10 (wrap64 (x11 + 1))) else (impl_rowOf.l0 k x0 x1 y148 x10 (wrap64 (x11 + 1)))) else (none))) else (none)) else (none)) else (some (strOfNums x5))
def impl_rowOf.f (k : Nat) (a0 : Int) (a1 : Int) : Option (ByteArray) := if 0 ≤ a0 then (if (a0 : Int).toNat ≤ 281474976710656 then ((some (List.replicate (a0 : Int).toNat 0 : List Int)).bind fun y145 => (impl_rowOf.l0 k a0 a1 y145 (y145.length : Int) 0)) else (none)) else (none)
theorem impl_rowOf.mono_l : ∀ k, (∀ y0 y1 y2 y3 y4, LeO (impl_rowOf.l0 k y0 y1 y2 y3 y4) (impl_rowOf.l0 (k + 1) y0 y1 y2 y3 y4))
  | 0 => fun _ _ _ _ _ r h => by simp [impl_rowOf.l0] at h
  | k + 1 => by
    have ih0 := impl_rowOf.mono_l k
    · intro y0 y1 y2 y3 y4
      unfold impl_rowOf.l0
      repeat' first
      | (with_reducible exact ih0 _ _ _ _ _)
      | (with_reducible exact LeO.refl _)
      | (with_reducible exact LeO.none _)
      | (with_reducible refine LeO.ite ?_ ?_)
      | (with_reducible refine LeO.bind ?_ (fun _ => ?_))
      | exact ih0 _ _ _ _ _
      | exact LeO.none _
      | refine LeO.ite ?_ ?_
      | refine LeO.bind ?_ (fun _ => ?_)
theorem impl_rowOf.mono : ∀ a0 a1 k, LeO (impl_rowOf.f k a0 a1) (impl_rowOf.f (k + 1) a0 a1) := by
  intro a0 a1 k
  have ih0 := impl_rowOf.mono_l k
  unfold impl_rowOf.f
  repeat' first
      | (with_reducible exact ih0 _ _ _ _ _)
      | (with_reducible exact LeO.refl _)
      | (with_reducible exact LeO.none _)
      | (with_reducible refine LeO.ite ?_ ?_)
      | (with_reducible refine LeO.bind ?_ (fun _ => ?_))
      | exact ih0 _ _ _ _ _
      | exact LeO.none _
      | refine LeO.ite ?_ ?_
      | refine LeO.bind ?_ (fun _ => ?_)
set_option maxHeartbeats 8000000 in
set_option maxRecDepth 100000 in
theorem impl_rowOf.calls (k : Nat) (a0 : Int) (a1 : Int) (r : ByteArray) (w : World) (h : impl_rowOf.f k a0 a1 = some r) :
  Calls Tryz.prog 53 #[.int .i64 a0, .int .i64 a1] w fun e w' => e = .returned (.string r) ∧ Below w.heap.size w w' := by
 have HB := Aside0.mk (Below.refl w.heap.size w)
 unfold impl_rowOf.f at h
 have H := h
 clear h
 obtain ⟨c3, H⟩ := oi H
 have c3b0 := eq_true c3
 have c3b1 := decide_eq_true c3
 clear c3
 obtain ⟨c4, H⟩ := oi H
 have c4b0 := eq_true c4
 have c4b1 := decide_eq_true c4
 clear c4
 obtain ⟨y145, hy145⟩ : ∃ y_ : List Int, y_ = (List.replicate (a0 : Int).toNat 0) := ⟨_, rfl⟩
 replace H : (impl_rowOf.l0 k a0 a1 y145 (y145.length : Int) 0) = some r := by first | (rw [hy145]; with_reducible exact H) | (have H2_ := (Option.bind_some _ _).symm.trans H; rw [hy145]; with_reducible exact H2_) | (have H2_ := (Option.bind_some _ _).symm.trans H; with_reducible exact H2_) | with_reducible exact H | (rw [hy145]; exact H) | exact H
 have Ny145 := Aside0.mk hy145
 clear hy145
 have H' := Aside0.mk H
 clear H
 go_enter Tryz.func53, Tryz.ntmps53
 go_wp2_with (first | ((with_reducible refine gd 8 ?_); refine Kd.R_make (Kd.int .u8) _ 5 rfl (N := 8) rfl 51 _ _ rfl a0 rfl rfl Tryz.underlying51 (.int .u8 0) 1 info5 rfl (by decide) (by omega) 0 (ok := fun _ => True) (okp := fun _ => True) rfl (fun _ hk => hk) trivial (of_decide_eq_true asm) (Nat.le_trans (Nat.mul_le_mul_right _ (of_decide_eq_true asm : a0.toNat ≤ 281474976710656)) (by omega)) (Below.refl _ _) (Nat.le_refl _) ?_; intro v146 w5 ho6 hb hg_ hnew_; clear hg_ hnew_; (first | rw [← Ny145.out] at ho6 | (simp only [Int.reduceToNat] at ho6; rw [← Ny145.out] at ho6)); have HO147 := Aside0.mk (Kd.R_lower ho6 (below_size bw)); replace HB := bs hb; clear hb ho6; obtain ⟨Ao7, co7, eo7⟩ := Kd.R_slice HO147.out; subst eo7))
 go_loopg [11] k (fun kq v11 w' => ∃ (x5_1 : List Int) (x11_1 : Int), v11 = .int .i64 x11_1 ∧ Aside0 (impl_rowOf.l0 kq a0 a1 x5_1 (y145.length : Int) x11_1 = some r) ∧ Aside0 (kq ≤ k) ∧ Aside0 (Kd.R (Kd.int .u8) 5 w' w.heap.size (fun _ => True) (.slice Ao7 y145.length co7) x5_1) ∧ Aside0 (Below w.heap.size w w'))
 case atStart => exact ⟨(y145), (0), (rs), H', ⟨Nat.le_refl _⟩, ⟨pr HO147⟩, ⟨bw⟩⟩
 case round =>
  clear H'
  try clear p2
  try clear c3
  try clear c3b0
  try clear c3b1
  try clear c4
  try clear c4b0
  try clear c4b1
  try clear c5
  obtain ⟨x5_1, x11_1, rfl, HA, HK1, HO_5, HB⟩ := hrel
  have hl5_1 := (Kd.R_reads' HO_5.out).1
  rw [hl5_1] at HO_5
  (try simp only [hl5_1])
  cases gk with
  | zero => exact absurd HA.out (by simp [impl_rowOf.l0])
  | succ k1 =>
   have H := HA.out
   clear HA
   simp only [impl_rowOf.l0] at H
   by_cases c8 : x11_1 < (y145.length : Int)
   ·rw [if_pos c8] at H
    have c8b0 := decide_eq_true c8
    (try (have c8b8 := c8b0; rw [hl5_1] at c8b8))
    clear c8
    obtain ⟨c9, H⟩ := oi H
    have c9b0 := decide_eq_true c9
    clear c9
    obtain ⟨c10, H⟩ := oi H
    have c10b0 := decide_eq_true c10
    clear c10
    obtain ⟨y148, hy148⟩ : ∃ y_ : List Int, y_ = (x5_1.set (x11_1 : Int).toNat 60) := ⟨_, rfl⟩
    replace H : (if 0 ≤ (wrap64 ((wrap64 (a0 - 1)) - x11_1)) then (if (Go.bits .and .i64 (shr .i64 a1 (wrap64 ((wrap64 (a0 - 1)) - x11_1))) 1) = 1 then (impl_rowOf.l0 k1 a0 a1 (y148.set (x11_1 : Int).toNat 62) (y145.length : Int) (wrap64 (x11_1 + 1))) else (impl_rowOf.l0 k1 a0 a1 y148 (y145.length : Int) (wrap64 (x11_1 + 1)))) else (none)) = some r := by first | (rw [hy148]; with_reducible exact H) | (have H2_ := (Option.bind_some _ _).symm.trans H; rw [hy148]; with_reducible exact H2_) | (have H2_ := (Option.bind_some _ _).symm.trans H; with_reducible exact H2_) | with_reducible exact H | (rw [hy148]; exact H) | exact H
    have Ny148 := Aside0.mk hy148
    clear hy148
    obtain ⟨ji12, hji12⟩ : ∃ j_ : Int, (wrap64 ((wrap64 (a0 - 1)) - x11_1)) = j_ := ⟨_, rfl⟩
    replace H : (if 0 ≤ (ji12) then (if (Go.bits .and .i64 (shr .i64 a1 (ji12)) 1) = 1 then (impl_rowOf.l0 k1 a0 a1 (y148.set (x11_1 : Int).toNat 62) (y145.length : Int) (wrap64 (x11_1 + 1))) else (impl_rowOf.l0 k1 a0 a1 y148 (y145.length : Int) (wrap64 (x11_1 + 1)))) else (none)) = some r := by first | (rw [hji12] at H; exact H) | (simp only [hji12] at H ⊢; exact H)
    have hji12w : (IntKind.i64.wrap ((wrap64 (a0 - 1)) - x11_1)) = ji12 := (i64_w _).trans hji12
    obtain ⟨c13, H⟩ := oi H
    have c13b0 := eq_true c13
    have c13b1 := decide_eq_true c13
    clear c13
    obtain ⟨ji14, hji14⟩ : ∃ j_ : Int, (shr .i64 a1 (ji12)) = j_ := ⟨_, rfl⟩
    replace H : (if (Go.bits .and .i64 (ji14) 1) = 1 then (impl_rowOf.l0 k1 a0 a1 (y148.set (x11_1 : Int).toNat 62) (y145.length : Int) (wrap64 (x11_1 + 1))) else (impl_rowOf.l0 k1 a0 a1 y148 (y145.length : Int) (wrap64 (x11_1 + 1)))) = some r := by first | (rw [hji14] at H; exact H) | (simp only [hji14] at H ⊢; exact H)
    have hji14_ : (a1 / 2 ^ min (ji12).toNat 64) = ji14 := hji14
    have hji14z : (ji12) ≤ 64 → (a1 / 2 ^ (ji12).toNat) = ji14 := shr_small hji14
    by_cases c15 : (Go.bits .and .i64 (ji14) 1) = 1
    ·rw [if_pos c15] at H
     have c15b0 : ((Go.bits .and .i64 (ji14) 1) == 1) = true := beq_iff_eq.mpr c15
     have c15b1 : ((Go.bits .and .i64 (ji14) 1) != 1) = false := bne_eq_false_iff_eq.mpr c15
     clear c15
     obtain ⟨y149, hy149⟩ : ∃ y_ : List Int, y_ = (y148.set (x11_1 : Int).toNat 62) := ⟨_, rfl⟩
     replace H : (impl_rowOf.l0 k1 a0 a1 y149 (y145.length : Int) (wrap64 (x11_1 + 1))) = some r := by first | (rw [hy149]; with_reducible exact H) | (have H2_ := (Option.bind_some _ _).symm.trans H; rw [hy149]; with_reducible exact H2_) | (have H2_ := (Option.bind_some _ _).symm.trans H; with_reducible exact H2_) | with_reducible exact H | (rw [hy149]; exact H) | exact H
     have Ny149 := Aside0.mk hy149
     clear hy149
     have H' := Aside0.mk H
     clear H
     have p11 : 0 ≤ (x11_1 : Int) := of_decide_eq_true asm
     have q11 : (x11_1 : Int) < ((x5_1.length : Int) : Int) := of_decide_eq_true asm
     obtain ⟨go11, co11, eo11, gb11, gl11, cl11, HG11⟩ := Kd.R_form HO_5.out (by omega)
     (first | cases eo11 | (injection eo11 with ea_ en_ ec_; (first | subst ea_ | (injection ea_ with ea_; subst ea_)); subst ec_; clear en_))
     have GB11 := Aside0.mk gb11
     have GG11 := Aside0.mk HG11
     clear gb11 gl11 HG11
     obtain ⟨hx11_0, hf11_0⟩ := Kd.R_celln 0 HO_5.out (x11_1 : Int) p11 q11
     replace p11 := eq_true p11
     replace q11 := eq_true q11
     have HP17 := Kd.R_putg HO_5.out (x11_1 : Int) 60
     go_wp2_with (first | ((with_reducible refine gate_store (t := 5) (p := 16) rfl ?_); refine store_event (t := 5) (p := 16) (v := ?vo_w18) (w1 := (wr.setCell ⟨go11, (x11_1 : Int).toNat, none⟩ (.int .u8 60))) ?hg ?ho ?hn ?hr ?_; (case ho => rfl); (case hg => rfl); (case hn => rfl); (case hr => first | (go_simp; done) | (go_simp; rfl)); intro w18 hw; have hg : wr.grownBy w18 (some go11) := (by rw [hw]; exact HP17.2); have hp_ : Kd.R (Kd.int .u8) 5 w18 w.heap.size (fun _ => True) (.slice (some ⟨go11, 0, none⟩) x5_1.length co7) y148 := (by rw [hw, Ny148.out]; exact HP17.1); clear HP17; replace HO_5 := Aside0.mk (hp_); replace HB := Aside0.mk ((by rw [hw]; exact below_set (HB.out) GB11.out : Below w.heap.size w w18)); clear hg hw hp_; have p16 : 0 ≤ (x11_1 : Int) := of_decide_eq_true asm; have q16 : (x11_1 : Int) < ((x5_1.length : Int) : Int) := of_decide_eq_true asm; obtain ⟨hx16_0, hf16_0⟩ := Kd.R_celln 0 HO_5.out (x11_1 : Int) p16 q16; replace p16 := eq_true p16; replace q16 := eq_true q16; obtain ⟨hy19_, hz19_⟩ := Kd.R_celln 0 HO_5.out (x11_1 : Int) (of_decide_eq_true asm) (of_decide_eq_true asm); have HP19 := Kd.R_putg HO_5.out (x11_1 : Int) 62) | ((with_reducible refine gate_store (t := 5) (p := 27) rfl ?_); refine store_event (t := 5) (p := 27) (v := ?vo_w20) (w1 := (w18.setCell ⟨go11, (x11_1 : Int).toNat, none⟩ (.int .u8 62))) ?hg ?ho ?hn ?hr ?_; (case ho => rfl); (case hg => rfl); (case hn => rfl); (case hr => first | (go_simp; done) | (go_simp; rfl)); intro w20 hw; have hg : w18.grownBy w20 (some go11) := (by rw [hw]; exact HP19.2); have hp_ : Kd.R (Kd.int .u8) 5 w20 w.heap.size (fun _ => True) (.slice (some ⟨go11, 0, none⟩) x5_1.length co7) y149 := (by rw [hw, Ny149.out]; exact HP19.1); clear HP19; replace HO_5 := Aside0.mk (hp_); replace HB := Aside0.mk ((by rw [hw]; exact below_set (HB.out) GB11.out : Below w.heap.size w w20)); clear hg hw hp_))
     (try simp only [← hl5_1])
     go_roundg k1
     case measure => have := HK1.out; omega
     case rel => exact ⟨(y149), (wrap64 (x11_1 + 1)), (rs), H', ⟨by have := HK1.out; omega⟩, ⟨by (try simp only [hl5_1]); (with_reducible repeat (first | apply Kd.R_alloc | apply Kd.R_drewN | apply Kd.R_drew)); exact HO_5.out⟩, ⟨bw⟩⟩
    rw [if_neg c15] at H
    have c15b0 : ((Go.bits .and .i64 (ji14) 1) == 1) = false := beq_eq_false_iff_ne.mpr c15
    have c15b1 : ((Go.bits .and .i64 (ji14) 1) != 1) = true := bne_iff_ne.mpr c15
    have H' := Aside0.mk H
    clear H
    have p11 : 0 ≤ (x11_1 : Int) := of_decide_eq_true asm
    have q11 : (x11_1 : Int) < ((x5_1.length : Int) : Int) := of_decide_eq_true asm
    obtain ⟨go11, co11, eo11, gb11, gl11, cl11, HG11⟩ := Kd.R_form HO_5.out (by omega)
    (first | cases eo11 | (injection eo11 with ea_ en_ ec_; (first | subst ea_ | (injection ea_ with ea_; subst ea_)); subst ec_; clear en_))
    have GB11 := Aside0.mk gb11
    have GG11 := Aside0.mk HG11
    clear gb11 gl11 HG11
    obtain ⟨hx11_0, hf11_0⟩ := Kd.R_celln 0 HO_5.out (x11_1 : Int) p11 q11
    replace p11 := eq_true p11
    replace q11 := eq_true q11
    have HP21 := Kd.R_putg HO_5.out (x11_1 : Int) 60
    go_wp2_with (first | ((with_reducible refine gate_store (t := 5) (p := 16) rfl ?_); refine store_event (t := 5) (p := 16) (v := ?vo_w22) (w1 := (wr.setCell ⟨go11, (x11_1 : Int).toNat, none⟩ (.int .u8 60))) ?hg ?ho ?hn ?hr ?_; (case ho => rfl); (case hg => rfl); (case hn => rfl); (case hr => first | (go_simp; done) | (go_simp; rfl)); intro w22 hw; have hg : wr.grownBy w22 (some go11) := (by rw [hw]; exact HP21.2); have hp_ : Kd.R (Kd.int .u8) 5 w22 w.heap.size (fun _ => True) (.slice (some ⟨go11, 0, none⟩) x5_1.length co7) y148 := (by rw [hw, Ny148.out]; exact HP21.1); clear HP21; replace HO_5 := Aside0.mk (hp_); replace HB := Aside0.mk ((by rw [hw]; exact below_set (HB.out) GB11.out : Below w.heap.size w w22)); clear hg hw hp_))
    (try simp only [← hl5_1])
    go_roundg k1
    case measure => have := HK1.out; omega
    case rel => exact ⟨(y148), (wrap64 (x11_1 + 1)), (rs), H', ⟨by have := HK1.out; omega⟩, ⟨by (try simp only [hl5_1]); (with_reducible repeat (first | apply Kd.R_alloc | apply Kd.R_drewN | apply Kd.R_drew)); exact HO_5.out⟩, ⟨bw⟩⟩
   rw [if_neg c8] at H
   have c8b0 := decide_eq_false c8
   (try (have c8b8 := c8b0; rw [hl5_1] at c8b8))
   clear c8
   obtain rfl := Option.some.inj H
   have hcv23 := own_string (P := Tryz.prog) Tryz.underlying51 Tryz.underlying5 Tryz.underlying9 (Kd.own_of_R HO_5.out)
   go_wp2
   go_ret
   exact ⟨rs, bw⟩
/-! ### impl_solutions: function 34 -/
def impl_solutions_clo.f (k : Nat) (s0 : ByteArray) (x0 : Int) (x1 : Int) (x2 : Int) (x3 : Int) : Option Bool := (impl_Clue_fits.f k x0 x1 x2 x3 s0).bind fun t => some (!t)
theorem impl_solutions_clo.mono : ∀ s0 x0 x1 x2 x3 k, LeO (impl_solutions_clo.f k s0 x0 x1 x2 x3) (impl_solutions_clo.f (k + 1) s0 x0 x1 x2 x3) := by
  intro s0 x0 x1 x2 x3 k
  unfold impl_solutions_clo.f
  exact LeO.bind (impl_Clue_fits.mono _ _ _ _ _ k) (fun _ => LeO.refl _)
set_option maxHeartbeats 8000000 in
set_option maxRecDepth 100000 in
theorem impl_solutions_clo.calls (k : Nat) (g : Nat) (s0 : ByteArray) (x0 : Int) (x1 : Int) (x2 : Int) (x3 : Int) (r : Bool) (w : World) (hm : Dr.Tab w) (hg0 : w.cell? ⟨g, 0, none⟩ = some (.string s0)) (h : impl_solutions_clo.f k s0 x0 x1 x2 x3 = some r) :
  Calls Tryz.prog 54 (#[.agg #[.int .i64 x0, .int .i64 x1, .int .i64 x2, .int .i64 x3]] ++ #[.pointer (some ⟨g, 0, none⟩)]) w fun e w' => e = .returned (.bool r) ∧ Below w.heap.size w w' := by
 have hu := Tryz.underlying42
 have HB := Aside0.mk (Below.refl w.heap.size w)
 have HG0 := Aside0.mk hg0
 have HMM := Aside0.mk hm
 clear hg0 hm
 replace h := Option.bind_eq_some_iff.mp h
 obtain ⟨t, A0, H⟩ := h
 have A1 := Aside0.mk A0
 clear A0
 obtain rfl := Option.some.inj H
 clear H
 show Calls Tryz.prog 54 #[.agg #[.int .i64 x0, .int .i64 x1, .int .i64 x2, .int .i64 x3], .pointer (some ⟨g, 0, none⟩)] w _
 go_enter Tryz.func54, Tryz.ntmps54
 go_wp2_with (first | ((with_reducible refine gd 2 ?_); refine box_event ?hg (N := 2) ?hd (cs := #[.int .i64 x0, .int .i64 x1, .int .i64 x2, .int .i64 x3]) (t := 42) ?hr ?_; (case hd => rfl); (case hg => rfl); (case hr => first | (go_simp; done) | (go_simp; rfl)); intro gb hg w8 hbox hb; have n0_ := Aside0.mk (below_step (by repeat (first | exact HB.out | apply pw_below_drewN)) hb); have n1_ := Aside0.mk hbox; have hcg0 : w8.cell? ⟨g, 0, none⟩ = some (.string s0) := (hb.cell (World.block_lt_of_cell? w _ HG0.out)).trans HG0.out; have hcz0 : w8.cell? ⟨gb, 0, none⟩ = some (.int .i64 x0) := (blk_cell n1_.out 0).trans rfl; have hcz1 : w8.cell? ⟨gb, 1, none⟩ = some (.int .i64 x1) := (blk_cell n1_.out 1).trans rfl; have hcz2 : w8.cell? ⟨gb, 2, none⟩ = some (.int .i64 x2) := (blk_cell n1_.out 2).trans rfl; have hcz3 : w8.cell? ⟨gb, 3, none⟩ = some (.int .i64 x3) := (blk_cell n1_.out 3).trans rfl; clear HB; have HB := n0_; have BK1 := n1_; clear n0_ n1_ hb hbox hg) | (go_at_call 44; (with_reducible refine (impl_Clue_fits.calls k x0 x1 x2 x3 s0 t _ (HMM.out.below HB.out) A1.out).mono ?_); rintro e w' ⟨rfl, hb⟩; have n0_ := Aside0.mk (below_step HB.out hb); clear HB; have HB := n0_; clear n0_ hb))
 go_ret
 exact ⟨by first | rfl | simp, by repeat (first | exact HB.out | apply pw_below_drewN)⟩
def impl_solutions_idx.l0 : Nat → ByteArray → List (S42) → Int → Option Int
  | 0, _, _, _ => none
  | k + 1, s0, l, i => if i < (l.length : Int) then (if 0 ≤ i then ((impl_solutions_clo.f k s0 (rd_T42 l i).f0 (rd_T42 l i).f1 (rd_T42 l i).f2 (rd_T42 l i).f3).bind fun t => (if t = true then (some i) else (impl_solutions_idx.l0 k s0 l (wrap64 (i + 1))))) else none) else (some (-1))
theorem impl_solutions_idx.mono_l : ∀ k, (∀ y0 y1 y2, LeO (impl_solutions_idx.l0 k y0 y1 y2) (impl_solutions_idx.l0 (k + 1) y0 y1 y2))
  | 0 => fun _ _ _ r h => by simp [impl_solutions_idx.l0] at h
  | k + 1 => by
    have ih0 := impl_solutions_idx.mono_l k
    · intro y0 y1 y2
      unfold impl_solutions_idx.l0
      repeat' first
      | (with_reducible exact ih0 _ _ _)
      | (with_reducible exact impl_solutions_clo.mono _ _ _ _ _ _)
      | (with_reducible exact LeO.refl _)
      | (with_reducible exact LeO.none _)
      | (with_reducible refine LeO.ite ?_ ?_)
      | (with_reducible refine LeO.bind ?_ (fun _ => ?_))
set_option maxHeartbeats 8000000 in
set_option maxRecDepth 100000 in
theorem impl_solutions_idx.calls (k : Nat) (g : Nat) (s0 : ByteArray) (A0 : Option Addr) (c0 : Nat) (l0 : List (S42)) (r : Int) (w : World) (hr0 : Kd.C k42 w A0 l0.length l0) (hc0 : l0.length ≤ c0) (hm : Dr.Tab w) (hg0 : w.cell? ⟨g, 0, none⟩ = some (.string s0)) (h : impl_solutions_idx.l0 k s0 l0 0 = some r) :
  Calls Tryz.prog 72 #[.slice A0 l0.length c0, .func (.func 54) #[] #[.pointer (some ⟨g, 0, none⟩)]] w fun e w' => e = .returned (.int .i64 r) ∧ Below w.heap.size w w' := by
 have hu := Tryz.underlying42
 have HR0 := Aside0.mk hr0
 have HC0 := Aside0.mk hc0
 clear hr0 hc0
 have HG0 := Aside0.mk hg0
 have HMM := Aside0.mk hm
 clear hg0 hm
 have HB := Aside0.mk (Below.refl w.heap.size w)
 have H' := Aside0.mk h
 clear h
 go_enter Tryz.func72, Tryz.ntmps72
 go_wp2
 go_loopg [8] k (fun kq v8 w' => ∃ (x8 : Int), v8 = .int .i64 x8 ∧ Aside0 (impl_solutions_idx.l0 kq s0 l0 x8 = some r) ∧ Aside0 (kq ≤ k) ∧ Aside0 (Below w.heap.size w w'))
 case atStart => exact ⟨(0), (rs), H', ⟨Nat.le_refl _⟩, HB⟩
 case round =>
  clear H' HB
  obtain ⟨x8, rfl, HA, HK1, HB⟩ := hrel
  cases gk with
  | zero => exact absurd HA.out (by simp [impl_solutions_idx.l0])
  | succ k1 =>
   have H := HA.out
   clear HA
   simp only [impl_solutions_idx.l0] at H
   by_cases c4 : x8 < (l0.length : Int)
   ·rw [if_pos c4] at H
    have c4b0 := decide_eq_true c4
    obtain ⟨c5, H⟩ := oi H
    have c5b0 := decide_eq_true c5
    replace H := Option.bind_eq_some_iff.mp H
    obtain ⟨t1, A0', H⟩ := H
    have A1 := Aside0.mk A0'
    clear A0'
    obtain ⟨ad, e1, hx0, hx1, hx2, hx3⟩ := at_T42 HR0.out x8 c5 c4
    cases e1
    replace hx0 := (HB.out.cell (World.block_lt_of_cell? w _ hx0)).trans hx0
    replace hx1 := (HB.out.cell (World.block_lt_of_cell? w _ hx1)).trans hx1
    replace hx2 := (HB.out.cell (World.block_lt_of_cell? w _ hx2)).trans hx2
    replace hx3 := (HB.out.cell (World.block_lt_of_cell? w _ hx3)).trans hx3
    have p1 := eq_true c5
    have q1 := eq_true c4
    clear c4 c5
    cases t1 with
    | true =>
     obtain rfl := Option.some.inj H
     clear H
     go_wp2_with (((with_reducible refine gd 16 ?_); refine Fv.goesV_ (some 16) rfl rfl Tryz.func54 (by kernel_rfl) rfl #[.agg #[.int .i64 (rd_T42 l0 x8).f0, .int .i64 (rd_T42 l0 x8).f1, .int .i64 (rd_T42 l0 x8).f2, .int .i64 (rd_T42 l0 x8).f3]] rfl (by first | rfl | (go_simp; done)) (by first | rfl | (go_simp; done)) ?_; (refine (impl_solutions_clo.calls _ g s0 _ _ _ _ _ _ (HMM.out.below HB.out) ((HB.out.cell (World.block_lt_of_cell? w _ HG0.out)).trans HG0.out) A1.out).mono ?_); rintro e w' ⟨rfl, hb⟩; refine ⟨_, rfl, ?_⟩; have n0_ := Aside0.mk (below_step HB.out hb); clear HB; have HB := n0_; clear n0_ hb))
     go_ret
     exact ⟨by first | rfl | simp, HB.out⟩
    | false =>
     have H' := Aside0.mk (show impl_solutions_idx.l0 k1 s0 l0 (wrap64 (x8 + 1)) = some r from by simpa using H)
     clear H
     go_wp2_with (((with_reducible refine gd 16 ?_); refine Fv.goesV_ (some 16) rfl rfl Tryz.func54 (by kernel_rfl) rfl #[.agg #[.int .i64 (rd_T42 l0 x8).f0, .int .i64 (rd_T42 l0 x8).f1, .int .i64 (rd_T42 l0 x8).f2, .int .i64 (rd_T42 l0 x8).f3]] rfl (by first | rfl | (go_simp; done)) (by first | rfl | (go_simp; done)) ?_; (refine (impl_solutions_clo.calls _ g s0 _ _ _ _ _ _ (HMM.out.below HB.out) ((HB.out.cell (World.block_lt_of_cell? w _ HG0.out)).trans HG0.out) A1.out).mono ?_); rintro e w' ⟨rfl, hb⟩; refine ⟨_, rfl, ?_⟩; have n0_ := Aside0.mk (below_step HB.out hb); clear HB; have HB := n0_; clear n0_ hb))
     go_roundg k1
     case measure => have := HK1.out; omega
     case rel => exact ⟨(wrap64 (x8 + 1)), (rs), H', ⟨by have := HK1.out; omega⟩, HB⟩
   rw [if_neg c4] at H
   have c4b0 := decide_eq_false c4
   clear c4
   obtain rfl := Option.some.inj H
   clear H
   go_wp2
   go_ret
   exact ⟨by first | rfl | simp, HB.out⟩
def impl_solutions_has.f (k : Nat) (s0 : ByteArray) (l : List (S42)) : Option Bool := (impl_solutions_idx.l0 k s0 l 0).bind fun i => some (decide (0 ≤ i))
theorem impl_solutions_has.mono : ∀ s0 a0 k, LeO (impl_solutions_has.f k s0 a0) (impl_solutions_has.f (k + 1) s0 a0) := by
  intro s0 a0 k
  unfold impl_solutions_has.f
  repeat' first
      | (with_reducible exact impl_solutions_idx.mono_l k _ _ _)
      | (with_reducible exact LeO.refl _)
      | (with_reducible exact LeO.none _)
      | (with_reducible refine LeO.ite ?_ ?_)
      | (with_reducible refine LeO.bind ?_ (fun _ => ?_))
set_option maxHeartbeats 8000000 in
set_option maxRecDepth 100000 in
theorem impl_solutions_has.calls (k : Nat) (g : Nat) (s0 : ByteArray) (A0 : Option Addr) (c0 : Nat) (l0 : List (S42)) (r : Bool) (w : World) (hr0 : Kd.C k42 w A0 l0.length l0) (hc0 : l0.length ≤ c0) (hm : Dr.Tab w) (hg0 : w.cell? ⟨g, 0, none⟩ = some (.string s0)) (h : impl_solutions_has.f k s0 l0 = some r) :
  Calls Tryz.prog 51 #[.slice A0 l0.length c0, .func (.func 54) #[] #[.pointer (some ⟨g, 0, none⟩)]] w fun e w' => e = .returned (.bool r) ∧ Below w.heap.size w w' := by
 have HR0 := Aside0.mk hr0
 have HC0 := Aside0.mk hc0
 clear hr0 hc0
 have HG0 := Aside0.mk hg0
 have HMM := Aside0.mk hm
 clear hg0 hm
 have HB := Aside0.mk (Below.refl w.heap.size w)
 replace h := Option.bind_eq_some_iff.mp h
 obtain ⟨t, A0', H⟩ := h
 have A1 := Aside0.mk A0'
 clear A0'
 obtain rfl := Option.some.inj H
 clear H
 go_enter Tryz.func51, Tryz.ntmps51
 go_wp2_with (go_at_call 72; (refine (impl_solutions_idx.calls k g s0 A0 c0 l0 t _ HR0.out HC0.out HMM.out HG0.out A1.out).mono ?_); rintro e w' ⟨rfl, hb⟩; have n0_ := Aside0.mk (below_step HB.out hb); clear HB; have HB := n0_; clear n0_ hb)
 go_ret
 exact ⟨by first | rfl | simp, HB.out⟩
def impl_solutions.l0 : Nat → Int → List S42 → List ByteArray → Int → Int → Option (List ByteArray)
  | 0, _, _, _, _, _ => none
  | k + 1, s, l, o, m, n => if n < m then ((impl_rowOf.f k s n).bind fun row => (impl_solutions_has.f k row l).bind fun t => (if t = true then impl_solutions.l0 k s l o m (wrap64 (n + 1)) else (if o.length < 8796093022208 then impl_solutions.l0 k s l (o ++ [row]) m (wrap64 (n + 1)) else none))) else some o
theorem impl_solutions.mono_l : ∀ k, (∀ y0 y1 y2 y3 y4, LeO (impl_solutions.l0 k y0 y1 y2 y3 y4) (impl_solutions.l0 (k + 1) y0 y1 y2 y3 y4))
  | 0 => fun _ _ _ _ _ r h => by simp [impl_solutions.l0] at h
  | k + 1 => by
    have ih0 := impl_solutions.mono_l k
    · intro y0 y1 y2 y3 y4
      unfold impl_solutions.l0
      repeat' first
      | (with_reducible exact ih0 _ _ _ _ _)
      | (with_reducible exact impl_solutions_has.mono _ _ _)
      | (with_reducible exact impl_rowOf.mono _ _ _)
      | (with_reducible exact LeO.refl _)
      | (with_reducible exact LeO.none _)
      | (with_reducible refine LeO.ite ?_ ?_)
      | (with_reducible refine LeO.bind ?_ (fun _ => ?_))
def impl_solutions.f (k : Nat) (a0 : Int) (l1 : List S42) : Option (List ByteArray) := if 0 ≤ a0 then impl_solutions.l0 k a0 l1 [] (shl .i64 1 a0) 0 else none
theorem impl_solutions.mono : ∀ a0 a1 k, LeO (impl_solutions.f k a0 a1) (impl_solutions.f (k + 1) a0 a1) := by
  intro a0 a1 k
  unfold impl_solutions.f
  exact LeO.ite (impl_solutions.mono_l k _ _ _ _ _) (LeO.none _)
set_option maxHeartbeats 8000000 in
set_option maxRecDepth 100000 in
theorem impl_solutions.calls (k : Nat) (a0 : Int) (A1 : Option Addr) (c1 : Nat) (l1 : List (S42)) (r : List ByteArray) (w : World) (hm : Dr.Tab w) (hr1 : Kd.C k42 w A1 l1.length l1) (hc1 : l1.length ≤ c1) (h : impl_solutions.f k a0 l1 = some r) :
  Calls Tryz.prog 34 #[.int .i64 a0, .slice A1 l1.length c1] w fun e w' => ∃ v0_ : Value, e = .returned (v0_) ∧ Kd.R Kd.string 9 w' w.heap.size (fun _ => True) v0_ r ∧ Below w.heap.size w w' := by
 have hu := Tryz.underlying42
 have HR1 := Aside0.mk hr1
 have HC1 := Aside0.mk hc1
 have HMM := Aside0.mk hm
 clear hr1 hc1 hm
 have HB := Aside0.mk (Below.refl w.heap.size w)
 unfold impl_solutions.f at h
 by_cases c3 : 0 ≤ a0
 ·rw [if_pos c3] at h
  have c3b0 := eq_true c3
  have c3b1 := decide_eq_true c3
  have c3b2 : decide (a0 < 0) = false := decide_eq_false (by omega)
  clear c3
  obtain ⟨m, hm⟩ : ∃ j_ : Int, (shl .i64 1 a0) = j_ := ⟨_, rfl⟩
  rw [hm] at h
  have hji4_ : (IntKind.i64.wrap (1 * 2 ^ min a0.toNat 64)) = m := hm
  have hji4z : a0 ≤ 64 → (IntKind.i64.wrap (1 * 2 ^ a0.toNat)) = m := shl_small hm
  have hji4u : (IntKind.i64.wrap (2 ^ min a0.toNat 64)) = m := by have h_ := hji4_; rw [Int.one_mul] at h_; exact h_
  have hji4v : a0 ≤ 64 → (IntKind.i64.wrap (2 ^ a0.toNat)) = m := fun hle_ => by have h_ := hji4z hle_; rw [Int.one_mul] at h_; exact h_
  have hji4y : (wrap64 (1 * 2 ^ min a0.toNat 64)) = m := (i64_w _).symm.trans hji4_
  have hji4x : a0 ≤ 64 → (wrap64 (1 * 2 ^ a0.toNat)) = m := fun h_ => (i64_w _).symm.trans (hji4z h_)
  clear hm
  have H' := Aside0.mk h
  clear h
  go_enter Tryz.func34, Tryz.ntmps34
  go_wp2_with (first | ((with_reducible refine gd 8 ?_); refine Kd.R_lit Kd.string _ 9 ?hg (N := 8) ?hd (xs := ([] : List ByteArray)) (inner := []) (ok := fun _ => True) (okp := fun _ => True) ?hr ?hp (fun _ hk => hk) trivial (Below.refl _ _) (Nat.le_refl _) (by simp) ?_; (case hd => rfl); (case hg => rfl); (case hr => first | (go_simp; done) | (go_simp; rfl)); (case hp => exact (Reps.none _ _)); intro v172 w2 ho3 hb hg_ hnew_; clear hg_ hnew_; have HO := Aside0.mk (Kd.R_lower ho3 (below_size HB.out)); replace HB := Aside0.mk (below_step HB.out hb); clear hb ho3))
  go_loopg [5, 11] k (fun kq v5 v11 w' => ∃ (o : List ByteArray) (n : Int), v11 = .int .i64 n ∧ Aside0 (impl_solutions.l0 kq a0 l1 o m n = some r) ∧ Aside0 (kq ≤ k) ∧ Aside0 (Kd.R Kd.string 9 w' w.heap.size (fun _ => True) v5 o) ∧ Aside0 (Below w.heap.size w w'))
  case atStart => exact ⟨[], 0, rfl, H', ⟨Nat.le_refl _⟩, HO, HB⟩
  case round =>
   clear H' HB HO
   obtain ⟨o, n, rfl, HA, HK1, HO, HB⟩ := hrel
   cases gk with
   | zero => exact absurd HA.out (by simp [impl_solutions.l0])
   | succ k1 =>
    have H := HA.out
    clear HA
    simp only [impl_solutions.l0] at H
    by_cases c5 : n < m
    ·rw [if_pos c5] at H
     have c5b0 := decide_eq_true c5
     clear c5
     obtain ⟨row, A0, H⟩ := Option.bind_eq_some_iff.mp H
     have A1 := Aside0.mk A0
     clear A0
     obtain ⟨t, A0, H⟩ := Option.bind_eq_some_iff.mp H
     have A2 := Aside0.mk A0
     clear A0
     cases t with
     | true =>
      rw [if_pos rfl] at H
      have H' := Aside0.mk H
      clear H
      go_wp2_with (first | (go_at_call 53; (with_reducible refine (impl_rowOf.calls k1 a0 n row _ A1.out).mono ?_); rintro e w3 ⟨rfl, hb⟩; replace HO := Aside0.mk (Kd.R_below HO.out hb); replace HB := Aside0.mk (below_step HB.out hb); clear hb) | (go_at_call 51; (refine (impl_solutions_has.calls k1 w3.heap.size row _ c1 l1 true _ (Kd.C_below HR1.out (below_alloc HB.out _)) HC1.out (HMM.out.below (below_alloc HB.out _)) ((blk_cell (blk_new w3 _) 0).trans rfl) A2.out).mono ?_); rintro e w4 ⟨rfl, hb⟩; have hc7 : w4.cell? ⟨w3.heap.size, 0, none⟩ = some (.string row) := (blk_cell (blk_below (blk_new w3 _) hb) 0).trans rfl; replace HO := Aside0.mk (Kd.R_below (Kd.R_alloc HO.out _) hb); replace HB := Aside0.mk (below_step (below_alloc HB.out _) hb); clear hb))
      go_roundg k1
      case measure => have := HK1.out; omega
      case rel => exact ⟨o, (wrap64 (n + 1)), (rs), H', ⟨by have := HK1.out; omega⟩, HO, HB⟩
     | false =>
      rw [if_neg (by decide)] at H
      obtain ⟨c6, H⟩ := oi H
      have LM := Aside0.mk c6
      clear c6
      have H' := Aside0.mk H
      clear H
      go_wp2_with (first | (go_at_call 53; (with_reducible refine (impl_rowOf.calls k1 a0 n row _ A1.out).mono ?_); rintro e w3 ⟨rfl, hb⟩; replace HO := Aside0.mk (Kd.R_below HO.out hb); replace HB := Aside0.mk (below_step HB.out hb); clear hb) | (go_at_call 51; (refine (impl_solutions_has.calls k1 w3.heap.size row _ c1 l1 false _ (Kd.C_below HR1.out (below_alloc HB.out _)) HC1.out (HMM.out.below (below_alloc HB.out _)) ((blk_cell (blk_new w3 _) 0).trans rfl) A2.out).mono ?_); rintro e w4 ⟨rfl, hb⟩; have hc7 : w4.cell? ⟨w3.heap.size, 0, none⟩ = some (.string row) := (blk_cell (blk_below (blk_new w3 _) hb) 0).trans rfl; replace HO := Aside0.mk (Kd.R_below (Kd.R_alloc HO.out _) hb); replace HB := Aside0.mk (below_step (below_alloc HB.out _) hb); clear hb) | ((with_reducible refine gate_builtin (b := .append) (xs := #[.tmp 21, .tmp 23]) rfl ?_); at_builtin; refine Kd.R_append Kd.string (w0 := w) w.heap.size rfl (.tmp 21) (.tmp 23) 25 9 (.string ⟨#[]⟩) 16 rfl Tryz.underlying25 info9 rfl (by decide) (by omega) u5 o row [.string row] (fun _ => True) (fun _ => False) rfl rfl ?aP (fun _ hk => hk.elim) ?aF ?aO ?aB ?aS ?aL ?_; (case aP => exact rfl); (case aB => repeat (first | exact HB.out | apply below_alloc)); (case aF => exact (fun _ _ => trivial)); (case aO => (with_reducible repeat (first | apply Kd.R_alloc | apply Kd.R_drewN | apply Kd.R_drew)); exact HO.out); (case aS => exact (below_size (by repeat (first | exact HB.out | apply below_alloc)))); (case aL => have := LM.out; omega); intro v164 w19 ho hb hg hat; clear HB HO; have HB := Aside0.mk hb; have HO := Aside0.mk ho; clear ho hb hg hat))
      go_roundg k1
      case measure => have := HK1.out; omega
      case rel => exact ⟨_, (wrap64 (n + 1)), (rs), H', ⟨by have := HK1.out; omega⟩, HO, HB⟩
    rw [if_neg c5] at H
    have c5b0 := decide_eq_false c5
    clear c5
    obtain rfl := Option.some.inj H
    clear H
    go_wp2
    go_ret
    exact ⟨_, rfl, HO.out, HB.out⟩
 rw [if_neg c3] at h
 exact absurd h (by simp)

/-! ### impl_Solutions: function 4 -/
def impl_Solutions.f (k : Nat) (a0_0 : Int) (l0_1 : List (S42)) : Option (List ByteArray × Bool) := (impl_isPuzzle.f k a0_0 l0_1).bind fun t151 => (if t151 = true then ((impl_solutions.f k a0_0 l0_1).bind fun t152 => (some (t152, true))) else (some (([] : List ByteArray), false)))
theorem impl_Solutions.mono : ∀ a0 a1 k, LeO (impl_Solutions.f k a0 a1) (impl_Solutions.f (k + 1) a0 a1) := by
  intro a0 a1 k
  unfold impl_Solutions.f
  repeat' first
      | (with_reducible exact impl_isPuzzle.mono _ _ _)
      | (with_reducible exact impl_solutions.mono _ _ _)
      | (with_reducible exact LeO.refl _)
      | (with_reducible exact LeO.none _)
      | (with_reducible refine LeO.ite ?_ ?_)
      | (with_reducible refine LeO.bind ?_ (fun _ => ?_))
      | exact impl_isPuzzle.mono _ _ _
      | exact impl_solutions.mono _ _ _
      | exact LeO.none _
      | refine LeO.ite ?_ ?_
      | refine LeO.bind ?_ (fun _ => ?_)
set_option maxHeartbeats 8000000 in
set_option maxRecDepth 100000 in
theorem impl_Solutions.calls (k : Nat) (a0_0 : Int) (A0_1 : Option Addr) (c0_1 : Nat) (l0_1 : List (S42)) (r1 : List ByteArray) (r2 : Bool) (w : World) (hm : Dr.Tab w) (hr0_1 : Kd.C k42 w A0_1 l0_1.length l0_1) (hc0_1 : l0_1.length ≤ c0_1) (h : impl_Solutions.f k a0_0 l0_1 = some (r1, r2)) :
  Calls Tryz.prog 4 #[.agg #[.int .i64 a0_0, .slice A0_1 l0_1.length c0_1]] w fun e w' => ∃ v0_ : Value, e = .returned (.tuple #[v0_, .bool r2]) ∧ Kd.R Kd.string 9 w' w.heap.size (fun _ => True) v0_ r1 ∧ Below w.heap.size w w' := by
 have hu24 := Tryz.underlying24
 have HR0_1 := Aside0.mk hr0_1
 have HC0_1 := Aside0.mk hc0_1
 clear hr0_1 hc0_1
 have HB := Aside0.mk (Below.refl w.heap.size w)
 have HMM := Aside0.mk hm
 clear hm
 unfold impl_Solutions.f at h
 have H := h
 clear h
 obtain ⟨t151, A2, H⟩ := ob H
 (try dsimp only at H)
 go_enter Tryz.func4, Tryz.ntmps4
 go_wp2_with (((with_reducible refine gd 1 ?_); refine bx 1 24 #[.int .i64 a0_0, .slice A0_1 l0_1.length c0_1] ?_; intro gb150 hg w5 hbox hb; have BK150 := hbox; have GW150 := gs hg; have GE150 := gs hg; replace HB := bs hb; clear hb hbox hg; have hz6 := z2 BK150; refine halt ?_))
 by_cases c3 : t151 = true
 ·subst c3
  rw [if_pos rfl] at H
  obtain ⟨t152, A4, H⟩ := ob H
  (try dsimp only at H)
  simp only [Option.some.injEq, Prod.mk.injEq] at H
  obtain ⟨rfl, rfl⟩ := H
  refine Aside0.mk ?_
  try go_wp2_with (first | ((with_reducible refine gc 33 ?_); refine gl (some 5) Tryz.func33 #[.agg #[.int .i64 a0_0, .slice A0_1 l0_1.length c0_1]] ?_; (with_reducible refine (impl_isPuzzle.calls k a0_0 _ _ l0_1 true _ ?_ ?_ A2.out).mono ?_); exact cb HR0_1; exact HC0_1.out; rintro e w7 ⟨rfl, hb⟩; refine ⟨_, rfl, ?_⟩; replace BK150 := nk BK150 hb; replace HB := bs hb; (try clear hb); have hz8 := z2 BK150) | ((with_reducible refine gc 34 ?_); refine gl (some 11) Tryz.func34 #[.int .i64 a0_0, .slice A0_1 l0_1.length c0_1] ?_; (with_reducible refine (impl_solutions.calls k a0_0 _ _ l0_1 t152 _ ?_ ?_ ?_ A4.out).mono ?_); exact Dr.mm HMM; exact cb HR0_1; exact HC0_1.out; rintro e w9 ⟨v153, rfl, ho0, hb⟩; refine ⟨_, rfl, ?_⟩; have HO154 := Aside0.mk (Kd.R_lower ho0 (below_size bw)); replace HB := bs hb; (try clear hb); (try clear ho0)))
  go_ret2
  exact ⟨_, rs, pr HO154, bw⟩
 replace c3 := Bool.eq_false_iff.mpr c3
 subst c3
 rw [if_neg (show ¬ (false = true) by decide)] at H
 simp only [Option.some.injEq, Prod.mk.injEq] at H
 obtain ⟨rfl, rfl⟩ := H
 refine Aside0.mk ?_
 try go_wp2_with (((with_reducible refine gc 33 ?_); refine gl (some 5) Tryz.func33 #[.agg #[.int .i64 a0_0, .slice A0_1 l0_1.length c0_1]] ?_; (with_reducible refine (impl_isPuzzle.calls k a0_0 _ _ l0_1 false _ ?_ ?_ A2.out).mono ?_); exact cb HR0_1; exact HC0_1.out; rintro e w12 ⟨rfl, hb⟩; refine ⟨_, rfl, ?_⟩; replace HB := bs hb; (try clear hb)))
 go_ret2
 exact ⟨_, rs, by first | exact Kd.R_nil _ _ _ _ _ | exact Kd.N_nil _ _ _ _ _ | exact Kd.V_nil _ _ _ _ _ | exact Kd.Q_nil _ _ _ _ _ | exact Kd.S_nil _ _ _ _ _, bw⟩

/-! ### spec_l1In: function 73 -/
def spec_l1In.f (a0 : Int) (a1 : Int) (a2 : Int) : Option (Bool) := if a0 ≥ a1 then (some (decide (a0 ≤ a2))) else (some false)
set_option maxHeartbeats 8000000 in
set_option maxRecDepth 100000 in
theorem spec_l1In.calls (a0 : Int) (a1 : Int) (a2 : Int) (r : Bool) (w : World) (h : spec_l1In.f a0 a1 a2 = some r) :
  Calls Tryz.prog 73 #[.int .i64 a0, .int .i64 a1, .int .i64 a2] w fun e w' => e = .returned (.bool r) ∧ Drawn0 w w' := by
 unfold spec_l1In.f at h
 have H := h
 clear h
 by_cases c4 : a0 ≥ a1
 ·rw [if_pos c4] at H
  have c4b0 := decide_eq_true c4
  clear c4
  obtain rfl := Option.some.inj H
  go_enter Tryz.func73, Tryz.ntmps73
  go_wp2
  go_ret
  exact ⟨rs, by repeat (first | exact Drawn0.refl _ | apply Drawn0.step)⟩
 rw [if_neg c4] at H
 have c4b0 := decide_eq_false c4
 clear c4
 obtain rfl := Option.some.inj H
 go_enter Tryz.func73, Tryz.ntmps73
 go_wp2
 go_ret
 exact ⟨rs, by repeat (first | exact Drawn0.refl _ | apply Drawn0.step)⟩

/-! ### spec_pzSoldiers: function 55 -/
def spec_pzSoldiers.f (a0 : Int) : Option (Bool) := (spec_l1In.f a0 1 8).bind fun t155 => (some t155)
set_option maxHeartbeats 8000000 in
set_option maxRecDepth 100000 in
theorem spec_pzSoldiers.calls (a0 : Int) (r : Bool) (w : World) (h : spec_pzSoldiers.f a0 = some r) :
  Calls Tryz.prog 55 #[.int .i64 a0] w fun e w' => e = .returned (.bool r) ∧ Drawn0 w w' := by
 unfold spec_pzSoldiers.f at h
 have H := h
 clear h
 obtain ⟨t155, A2, H⟩ := ob H
 (try dsimp only at H)
 obtain rfl := Option.some.inj H
 go_enter Tryz.func55, Tryz.ntmps55
 go_wp2_with (first | ((with_reducible refine gc 73 ?_); refine gl (some 4) Tryz.func73 #[.int .i64 a0, .int .i64 1, .int .i64 8] ?_; (with_reducible refine (spec_l1In.calls a0 1 8 t155 _ A2.out).mono ?_); rintro e w' ⟨rfl, ⟨nd, rfl⟩⟩; refine ⟨_, rfl, ?_⟩))
 go_ret
 exact ⟨rs, by repeat (first | exact Drawn0.refl _ | apply Drawn0.step)⟩

/-! ### spec_pzClue: function 56 -/
def spec_pzClue.f (a0 : Int) (a1_0 : Int) (a1_1 : Int) (a1_2 : Int) (a1_3 : Int) : Option (Bool) := if a1_0 = 0 then ((spec_l1In.f a1_1 0 (wrap64 (a0 - 1))).bind fun t157 => (if t157 = true then ((spec_l1In.f a1_2 0 20).bind fun t158 => (if t158 = true then ((spec_l1In.f a1_3 0 1).bind fun t159 => (some t159)) else (some false))) else (some false))) else (if a1_0 = 1 then (if a1_1 = 0 then (if a1_2 = 0 then ((spec_l1In.f a1_3 0 a0).bind fun t160 => (some t160)) else (some false)) else (some false)) else (if a1_0 = 2 then (if a1_1 = 0 then (if a1_2 = 0 then ((spec_l1In.f a1_3 0 20).bind fun t161 => (some t161)) else (some false)) else (some false)) else (if a1_0 = 3 then (if a1_1 = 0 then (if a1_2 = 0 then ((spec_l1In.f a1_3 0 8).bind fun t162 => (some t162)) else (some false)) else (some false)) else (if a1_0 = 4 then ((spec_l1In.f a1_1 0 (wrap64 (a0 - 1))).bind fun t163 => (if t163 = true then (if a1_2 = 0 then ((spec_l1In.f a1_3 0 20).bind fun t164 => (some t164)) else (some false)) else (some false))) else (some false)))))
set_option maxHeartbeats 8000000 in
set_option maxRecDepth 100000 in
theorem spec_pzClue.calls (a0 : Int) (a1_0 : Int) (a1_1 : Int) (a1_2 : Int) (a1_3 : Int) (r : Bool) (w : World) (h : spec_pzClue.f a0 a1_0 a1_1 a1_2 a1_3 = some r) :
  Calls Tryz.prog 56 #[.int .i64 a0, .agg #[.int .i64 a1_0, .int .i64 a1_1, .int .i64 a1_2, .int .i64 a1_3]] w fun e w' => e = .returned (.bool r) ∧ Below w.heap.size w w' := by
 have hu42 := Tryz.underlying42
 have HB := Aside0.mk (Below.refl w.heap.size w)
 unfold spec_pzClue.f at h
 have H := h
 clear h
 by_cases c3 : a1_0 = 0
 ·rw [if_pos c3] at H
  have c3b0 : (a1_0 == 0) = true := beq_iff_eq.mpr c3
  have c3b1 : (a1_0 != 0) = false := bne_eq_false_iff_eq.mpr c3
  clear c3
  obtain ⟨t157, A4, H⟩ := ob H
  (try dsimp only at H)
  go_enter Tryz.func56, Tryz.ntmps56
  go_wp2_with (((with_reducible refine gd 3 ?_); refine bx 3 42 #[.int .i64 a1_0, .int .i64 a1_1, .int .i64 a1_2, .int .i64 a1_3] ?_; intro gb156 hg w9 hbox hb; have BK156 := hbox; have GW156 := gs hg; have GE156 := gs hg; replace HB := bs hb; clear hb hbox hg; have hz10 := z4 BK156; refine halt ?_))
  by_cases c5 : t157 = true
  ·subst c5
   rw [if_pos rfl] at H
   obtain ⟨t158, A6, H⟩ := ob H
   (try dsimp only at H)
   refine Aside0.mk ?_
   try go_wp2_with (((with_reducible refine gc 73 ?_); refine gl (some 13) Tryz.func73 #[.int .i64 a1_1, .int .i64 0, .int .i64 (wrap64 (a0 - 1))] ?_; (with_reducible refine (spec_l1In.calls a1_1 0 (wrap64 (a0 - 1)) true _ A4.out).mono ?_); rintro e w' ⟨rfl, ⟨nd, rfl⟩⟩; refine ⟨_, rfl, ?_⟩; refine halt ?_))
   by_cases c7 : t158 = true
   ·subst c7
    rw [if_pos rfl] at H
    obtain ⟨t159, A8, H⟩ := ob H
    (try dsimp only at H)
    obtain rfl := Option.some.inj H
    refine Aside0.mk ?_
    try go_wp2_with (first | (go_at_call 73; (with_reducible refine (spec_l1In.calls a1_2 0 20 true _ A6.out).mono ?_); rintro e w' ⟨rfl, ⟨nd, rfl⟩⟩) | (go_at_call 73; (with_reducible refine (spec_l1In.calls a1_3 0 1 t159 _ A8.out).mono ?_); rintro e w' ⟨rfl, ⟨nd, rfl⟩⟩))
    go_ret
    exact ⟨rs, bw⟩
   replace c7 := Bool.eq_false_iff.mpr c7
   subst c7
   rw [if_neg (show ¬ (false = true) by decide)] at H
   obtain rfl := Option.some.inj H
   refine Aside0.mk ?_
   try go_wp2_with ((go_at_call 73; (with_reducible refine (spec_l1In.calls a1_2 0 20 false _ A6.out).mono ?_); rintro e w' ⟨rfl, ⟨nd, rfl⟩⟩))
   go_ret
   exact ⟨rs, bw⟩
  replace c5 := Bool.eq_false_iff.mpr c5
  subst c5
  rw [if_neg (show ¬ (false = true) by decide)] at H
  obtain rfl := Option.some.inj H
  refine Aside0.mk ?_
  try go_wp2_with (((with_reducible refine gc 73 ?_); refine gl (some 13) Tryz.func73 #[.int .i64 a1_1, .int .i64 0, .int .i64 (wrap64 (a0 - 1))] ?_; (with_reducible refine (spec_l1In.calls a1_1 0 (wrap64 (a0 - 1)) false _ A4.out).mono ?_); rintro e w' ⟨rfl, ⟨nd, rfl⟩⟩; refine ⟨_, rfl, ?_⟩))
  go_ret
  exact ⟨rs, bw⟩
 rw [if_neg c3] at H
 have c3b0 : (a1_0 == 0) = false := beq_eq_false_iff_ne.mpr c3
 have c3b1 : (a1_0 != 0) = true := bne_iff_ne.mpr c3
 by_cases c15 : a1_0 = 1
 ·rw [if_pos c15] at H
  have c15b0 : (a1_0 == 1) = true := beq_iff_eq.mpr c15
  have c15b1 : (a1_0 != 1) = false := bne_eq_false_iff_eq.mpr c15
  clear c15
  by_cases c16 : a1_1 = 0
  ·rw [if_pos c16] at H
   have c16b0 : (a1_1 == 0) = true := beq_iff_eq.mpr c16
   have c16b1 : (a1_1 != 0) = false := bne_eq_false_iff_eq.mpr c16
   clear c16
   go_enter Tryz.func56, Tryz.ntmps56
   go_wp2_with (((with_reducible refine gd 3 ?_); refine bx 3 42 #[.int .i64 a1_0, .int .i64 a1_1, .int .i64 a1_2, .int .i64 a1_3] ?_; intro gb156 hg w19 hbox hb; have BK156 := hbox; have GW156 := gs hg; have GE156 := gs hg; replace HB := bs hb; clear hb hbox hg; have hz20 := z4 BK156; refine halt ?_))
   by_cases c17 : a1_2 = 0
   ·rw [if_pos c17] at H
    have c17b0 : (a1_2 == 0) = true := beq_iff_eq.mpr c17
    have c17b1 : (a1_2 != 0) = false := bne_eq_false_iff_eq.mpr c17
    clear c17
    obtain ⟨t160, A18, H⟩ := ob H
    (try dsimp only at H)
    obtain rfl := Option.some.inj H
    refine Aside0.mk ?_
    try go_wp2_with ((go_at_call 73; (with_reducible refine (spec_l1In.calls a1_3 0 a0 t160 _ A18.out).mono ?_); rintro e w' ⟨rfl, ⟨nd, rfl⟩⟩))
    go_ret
    exact ⟨rs, bw⟩
   rw [if_neg c17] at H
   have c17b0 : (a1_2 == 0) = false := beq_eq_false_iff_ne.mpr c17
   have c17b1 : (a1_2 != 0) = true := bne_iff_ne.mpr c17
   obtain rfl := Option.some.inj H
   refine Aside0.mk ?_
   try go_wp2
   go_ret
   exact ⟨rs, bw⟩
  rw [if_neg c16] at H
  have c16b0 : (a1_1 == 0) = false := beq_eq_false_iff_ne.mpr c16
  have c16b1 : (a1_1 != 0) = true := bne_iff_ne.mpr c16
  obtain rfl := Option.some.inj H
  go_enter Tryz.func56, Tryz.ntmps56
  go_wp2_with (first | ((with_reducible refine gd 3 ?_); refine bx 3 42 #[.int .i64 a1_0, .int .i64 a1_1, .int .i64 a1_2, .int .i64 a1_3] ?_; intro gb156 hg w23 hbox hb; have BK156 := hbox; have GW156 := gs hg; have GE156 := gs hg; replace HB := bs hb; clear hb hbox hg; have hz24 := z4 BK156))
  go_ret
  exact ⟨rs, bw⟩
 rw [if_neg c15] at H
 have c15b0 : (a1_0 == 1) = false := beq_eq_false_iff_ne.mpr c15
 have c15b1 : (a1_0 != 1) = true := bne_iff_ne.mpr c15
 by_cases c25 : a1_0 = 2
 ·rw [if_pos c25] at H
  have c25b0 : (a1_0 == 2) = true := beq_iff_eq.mpr c25
  have c25b1 : (a1_0 != 2) = false := bne_eq_false_iff_eq.mpr c25
  clear c25
  by_cases c26 : a1_1 = 0
  ·rw [if_pos c26] at H
   have c26b0 : (a1_1 == 0) = true := beq_iff_eq.mpr c26
   have c26b1 : (a1_1 != 0) = false := bne_eq_false_iff_eq.mpr c26
   clear c26
   go_enter Tryz.func56, Tryz.ntmps56
   go_wp2_with (((with_reducible refine gd 3 ?_); refine bx 3 42 #[.int .i64 a1_0, .int .i64 a1_1, .int .i64 a1_2, .int .i64 a1_3] ?_; intro gb156 hg w29 hbox hb; have BK156 := hbox; have GW156 := gs hg; have GE156 := gs hg; replace HB := bs hb; clear hb hbox hg; have hz30 := z4 BK156; refine halt ?_))
   by_cases c27 : a1_2 = 0
   ·rw [if_pos c27] at H
    have c27b0 : (a1_2 == 0) = true := beq_iff_eq.mpr c27
    have c27b1 : (a1_2 != 0) = false := bne_eq_false_iff_eq.mpr c27
    clear c27
    obtain ⟨t161, A28, H⟩ := ob H
    (try dsimp only at H)
    obtain rfl := Option.some.inj H
    refine Aside0.mk ?_
    try go_wp2_with ((go_at_call 73; (with_reducible refine (spec_l1In.calls a1_3 0 20 t161 _ A28.out).mono ?_); rintro e w' ⟨rfl, ⟨nd, rfl⟩⟩))
    go_ret
    exact ⟨rs, bw⟩
   rw [if_neg c27] at H
   have c27b0 : (a1_2 == 0) = false := beq_eq_false_iff_ne.mpr c27
   have c27b1 : (a1_2 != 0) = true := bne_iff_ne.mpr c27
   obtain rfl := Option.some.inj H
   refine Aside0.mk ?_
   try go_wp2
   go_ret
   exact ⟨rs, bw⟩
  rw [if_neg c26] at H
  have c26b0 : (a1_1 == 0) = false := beq_eq_false_iff_ne.mpr c26
  have c26b1 : (a1_1 != 0) = true := bne_iff_ne.mpr c26
  obtain rfl := Option.some.inj H
  go_enter Tryz.func56, Tryz.ntmps56
  go_wp2_with (first | ((with_reducible refine gd 3 ?_); refine bx 3 42 #[.int .i64 a1_0, .int .i64 a1_1, .int .i64 a1_2, .int .i64 a1_3] ?_; intro gb156 hg w33 hbox hb; have BK156 := hbox; have GW156 := gs hg; have GE156 := gs hg; replace HB := bs hb; clear hb hbox hg; have hz34 := z4 BK156))
  go_ret
  exact ⟨rs, bw⟩
 rw [if_neg c25] at H
 have c25b0 : (a1_0 == 2) = false := beq_eq_false_iff_ne.mpr c25
 have c25b1 : (a1_0 != 2) = true := bne_iff_ne.mpr c25
 by_cases c35 : a1_0 = 3
 ·rw [if_pos c35] at H
  have c35b0 : (a1_0 == 3) = true := beq_iff_eq.mpr c35
  have c35b1 : (a1_0 != 3) = false := bne_eq_false_iff_eq.mpr c35
  clear c35
  by_cases c36 : a1_1 = 0
  ·rw [if_pos c36] at H
   have c36b0 : (a1_1 == 0) = true := beq_iff_eq.mpr c36
   have c36b1 : (a1_1 != 0) = false := bne_eq_false_iff_eq.mpr c36
   clear c36
   go_enter Tryz.func56, Tryz.ntmps56
   go_wp2_with (((with_reducible refine gd 3 ?_); refine bx 3 42 #[.int .i64 a1_0, .int .i64 a1_1, .int .i64 a1_2, .int .i64 a1_3] ?_; intro gb156 hg w39 hbox hb; have BK156 := hbox; have GW156 := gs hg; have GE156 := gs hg; replace HB := bs hb; clear hb hbox hg; have hz40 := z4 BK156; refine halt ?_))
   by_cases c37 : a1_2 = 0
   ·rw [if_pos c37] at H
    have c37b0 : (a1_2 == 0) = true := beq_iff_eq.mpr c37
    have c37b1 : (a1_2 != 0) = false := bne_eq_false_iff_eq.mpr c37
    clear c37
    obtain ⟨t162, A38, H⟩ := ob H
    (try dsimp only at H)
    obtain rfl := Option.some.inj H
    refine Aside0.mk ?_
    try go_wp2_with ((go_at_call 73; (with_reducible refine (spec_l1In.calls a1_3 0 8 t162 _ A38.out).mono ?_); rintro e w' ⟨rfl, ⟨nd, rfl⟩⟩))
    go_ret
    exact ⟨rs, bw⟩
   rw [if_neg c37] at H
   have c37b0 : (a1_2 == 0) = false := beq_eq_false_iff_ne.mpr c37
   have c37b1 : (a1_2 != 0) = true := bne_iff_ne.mpr c37
   obtain rfl := Option.some.inj H
   refine Aside0.mk ?_
   try go_wp2
   go_ret
   exact ⟨rs, bw⟩
  rw [if_neg c36] at H
  have c36b0 : (a1_1 == 0) = false := beq_eq_false_iff_ne.mpr c36
  have c36b1 : (a1_1 != 0) = true := bne_iff_ne.mpr c36
  obtain rfl := Option.some.inj H
  go_enter Tryz.func56, Tryz.ntmps56
  go_wp2_with (first | ((with_reducible refine gd 3 ?_); refine bx 3 42 #[.int .i64 a1_0, .int .i64 a1_1, .int .i64 a1_2, .int .i64 a1_3] ?_; intro gb156 hg w43 hbox hb; have BK156 := hbox; have GW156 := gs hg; have GE156 := gs hg; replace HB := bs hb; clear hb hbox hg; have hz44 := z4 BK156))
  go_ret
  exact ⟨rs, bw⟩
 rw [if_neg c35] at H
 have c35b0 : (a1_0 == 3) = false := beq_eq_false_iff_ne.mpr c35
 have c35b1 : (a1_0 != 3) = true := bne_iff_ne.mpr c35
 by_cases c45 : a1_0 = 4
 ·rw [if_pos c45] at H
  have c45b0 : (a1_0 == 4) = true := beq_iff_eq.mpr c45
  have c45b1 : (a1_0 != 4) = false := bne_eq_false_iff_eq.mpr c45
  clear c45
  obtain ⟨t163, A46, H⟩ := ob H
  (try dsimp only at H)
  go_enter Tryz.func56, Tryz.ntmps56
  go_wp2_with (((with_reducible refine gd 3 ?_); refine bx 3 42 #[.int .i64 a1_0, .int .i64 a1_1, .int .i64 a1_2, .int .i64 a1_3] ?_; intro gb156 hg w50 hbox hb; have BK156 := hbox; have GW156 := gs hg; have GE156 := gs hg; replace HB := bs hb; clear hb hbox hg; have hz51 := z4 BK156; refine halt ?_))
  by_cases c47 : t163 = true
  ·subst c47
   rw [if_pos rfl] at H
   refine Aside0.mk ?_
   try go_wp2_with (((with_reducible refine gc 73 ?_); refine gl (some 76) Tryz.func73 #[.int .i64 a1_1, .int .i64 0, .int .i64 (wrap64 (a0 - 1))] ?_; (with_reducible refine (spec_l1In.calls a1_1 0 (wrap64 (a0 - 1)) true _ A46.out).mono ?_); rintro e w' ⟨rfl, ⟨nd, rfl⟩⟩; refine ⟨_, rfl, ?_⟩; refine halt ?_))
   by_cases c48 : a1_2 = 0
   ·rw [if_pos c48] at H
    have c48b0 : (a1_2 == 0) = true := beq_iff_eq.mpr c48
    have c48b1 : (a1_2 != 0) = false := bne_eq_false_iff_eq.mpr c48
    clear c48
    obtain ⟨t164, A49, H⟩ := ob H
    (try dsimp only at H)
    obtain rfl := Option.some.inj H
    refine Aside0.mk ?_
    try go_wp2_with ((go_at_call 73; (with_reducible refine (spec_l1In.calls a1_3 0 20 t164 _ A49.out).mono ?_); rintro e w' ⟨rfl, ⟨nd, rfl⟩⟩))
    go_ret
    exact ⟨rs, bw⟩
   rw [if_neg c48] at H
   have c48b0 : (a1_2 == 0) = false := beq_eq_false_iff_ne.mpr c48
   have c48b1 : (a1_2 != 0) = true := bne_iff_ne.mpr c48
   obtain rfl := Option.some.inj H
   refine Aside0.mk ?_
   try go_wp2
   go_ret
   exact ⟨rs, bw⟩
  replace c47 := Bool.eq_false_iff.mpr c47
  subst c47
  rw [if_neg (show ¬ (false = true) by decide)] at H
  obtain rfl := Option.some.inj H
  refine Aside0.mk ?_
  try go_wp2_with (((with_reducible refine gc 73 ?_); refine gl (some 76) Tryz.func73 #[.int .i64 a1_1, .int .i64 0, .int .i64 (wrap64 (a0 - 1))] ?_; (with_reducible refine (spec_l1In.calls a1_1 0 (wrap64 (a0 - 1)) false _ A46.out).mono ?_); rintro e w' ⟨rfl, ⟨nd, rfl⟩⟩; refine ⟨_, rfl, ?_⟩))
  go_ret
  exact ⟨rs, bw⟩
 rw [if_neg c45] at H
 have c45b0 : (a1_0 == 4) = false := beq_eq_false_iff_ne.mpr c45
 have c45b1 : (a1_0 != 4) = true := bne_iff_ne.mpr c45
 obtain rfl := Option.some.inj H
 go_enter Tryz.func56, Tryz.ntmps56
 go_wp2_with (first | ((with_reducible refine gd 3 ?_); refine bx 3 42 #[.int .i64 a1_0, .int .i64 a1_1, .int .i64 a1_2, .int .i64 a1_3] ?_; intro gb156 hg w56 hbox hb; have BK156 := hbox; have GW156 := gs hg; have GE156 := gs hg; replace HB := bs hb; clear hb hbox hg; have hz57 := z4 BK156))
 go_ret
 exact ⟨rs, bw⟩

end Go.Proofs.YtfaakdokcldnkaaGreatDoor.PFnRowsGuessedOfAll
