-- Laid by xprint, a program of this session that runs over the kit's print.
import Derived.Test.YtonhhfhlhlifcaaGreatDoorPFnRowsHiddenOfAllx8
namespace Go.Proofs.YtonhhfhlhlifcaaGreatDoor.PFnRowsHiddenOfAll
open Go.RowKit Go.Proofs.YtonhhfhlhlifcaaGreatDoorW.PrintWords Go.Proofs.YtonhhfhlhlifcaaGreatDoorW.PrintLast Go.Proofs.YtonhhfhlhlifcaaGreatDoorW.PrintMore Go.Proofs.YtonhhfhlhlifcaaGreatDoor.Sq
attribute [local go_sem] max2_int min2_int max_two min_two max_three min_three max_four min_four   -- for this text's walks alone
set_option linter.unusedVariables false
set_option linter.unusedSimpArgs false

/-! ### impl_rowOf: function 63 -/
def impl_rowOf.l0 : Nat → Int → Int → List Int → Int → Int → Option (ByteArray)
  | 0, _, _, _, _, _ => none
  | k + 1, x0, x1, x5, x10, x11 => if x11 < x10 then (if 0 ≤ x11 then (if x11 < (x5.length : Int) then ((some (x5.set (x11 : Int).toNat 60 : List Int)).bind fun y217 => (if 0 ≤ (wrap64 ((wrap64 (x0 - 1)) - x11)) then (if (Go.bits .and .i64 (shr .i64 x1 (wrap64 ((wrap64 (x0 - 1)) - x11))) 1) = 1 then (impl_rowOf.l0 k x0 x1 (y217.set (x11 : Int).toNat 62) x10 (wrap64 (x11 + 1))) else (impl_rowOf.l0 k x0 x1 y217 x10 (wrap64 (x11 + 1)))) else (none))) else (none)) else (none)) else (some (strOfNums x5))
def impl_rowOf.f (k : Nat) (a0 : Int) (a1 : Int) : Option (ByteArray) := if 0 ≤ a0 then (if (a0 : Int).toNat ≤ 281474976710656 then ((some (List.replicate (a0 : Int).toNat 0 : List Int)).bind fun y214 => (impl_rowOf.l0 k a0 a1 y214 (y214.length : Int) 0)) else (none)) else (none)
theorem impl_rowOf.mono_l : ∀ k, (∀ y0 y1 y2 y3 y4, LeO (impl_rowOf.l0 k y0 y1 y2 y3 y4) (impl_rowOf.l0 (k + 1) y0 y1 y2 y3 y4))
  | 0 => fun _ _ _ _ _ r h => by simp [impl_rowOf.l0] at h
  | k + 1 => by
    have ih0 := impl_rowOf.mono_l k
    · intro y0 y1 y2 y3 y4
      unfold impl_rowOf.l0
      repeat' first
      | (with_reducible exact ih0 _ _ _ _ _)
      | (with_reducible exact LeO.refl _)
      | (with_reducible exact LeO.none _)
      | (with_reducible refine LeO.ite ?_ ?_)
      | (with_reducible refine LeO.bind ?_ (fun _ => ?_))
      | exact ih0 _ _ _ _ _
      | exact LeO.none _
      | refine LeO.ite ?_ ?_
      | refine LeO.bind ?_ (fun _ => ?_)
theorem impl_rowOf.mono : ∀ a0 a1 k, LeO (impl_rowOf.f k a0 a1) (impl_rowOf.f (k + 1) a0 a1) := by
  intro a0 a1 k
  have ih0 := impl_rowOf.mono_l k
  unfold impl_rowOf.f
  repeat' first
      | (with_reducible exact ih0 _ _ _ _ _)
      | (with_reducible exact LeO.refl _)
      | (with_reducible exact LeO.none _)
      | (with_reducible refine LeO.ite ?_ ?_)
      | (with_reducible refine LeO.bind ?_ (fun _ => ?_))
      | exact ih0 _ _ _ _ _
      | exact LeO.none _
      | refine LeO.ite ?_ ?_
      | refine LeO.bind ?_ (fun _ => ?_)
set_option maxHeartbeats 8000000 in
set_option maxRecDepth 100000 in
theorem impl_rowOf.calls (k : Nat) (a0 : Int) (a1 : Int) (r : ByteArray) (w : World) (h : impl_rowOf.f k a0 a1 = some r) :
  Calls Tryz.prog 63 #[.int .i64 a0, .int .i64 a1] w fun e w' => e = .returned (.string r) ∧ Below w.heap.size w w' := by
 have HB := Aside0.mk (Below.refl w.heap.size w)
 unfold impl_rowOf.f at h
 have H := h
 clear h
 obtain ⟨c3, H⟩ := oi H
 have c3b0 := eq_true c3
 have c3b1 := decide_eq_true c3
 clear c3
 obtain ⟨c4, H⟩ := oi H
 have c4b0 := eq_true c4
 have c4b1 := decide_eq_true c4
 clear c4
 obtain ⟨y214, hy214⟩ : ∃ y_ : List Int, y_ = (List.replicate (a0 : Int).toNat 0) := ⟨_, rfl⟩
 replace H : (impl_rowOf.l0 k a0 a1 y214 (y214.length : Int) 0) = some r := by first | (rw [hy214]; with_reducible exact H) | (have H2_ := (Option.bind_some _ _).symm.trans H; rw [hy214]; with_reducible exact H2_) | (have H2_ := (Option.bind_some _ _).symm.trans H; with_reducible exact H2_) | with_reducible exact H | (rw [hy214]; exact H) | exact H
 have Ny214 := Aside0.mk hy214
 clear hy214
 have H' := Aside0.mk H
 clear H
 go_enter Tryz.func63, Tryz.ntmps63
 go_wp2_with (first | ((with_reducible refine gd 8 ?_); refine Kd.R_make (Kd.int .u8) _ 5 rfl (N := 8) rfl 90 _ _ rfl a0 rfl rfl Tryz.underlying90 (.int .u8 0) 1 info5 rfl (by decide) (by omega) 0 (ok := fun _ => True) (okp := fun _ => True) rfl (fun _ hk => hk) trivial (of_decide_eq_true asm) (Nat.le_trans (Nat.mul_le_mul_right _ (of_decide_eq_true asm : a0.toNat ≤ 281474976710656)) (by omega)) (Below.refl _ _) (Nat.le_refl _) ?_; intro v215 w5 ho6 hb hg_ hnew_; clear hg_ hnew_; (first | rw [← Ny214.out] at ho6 | (simp only [Int.reduceToNat] at ho6; rw [← Ny214.out] at ho6)); have HO216 := Aside0.mk (Kd.R_lower ho6 (below_size bw)); replace HB := bs hb; clear hb ho6; obtain ⟨Ao7, co7, eo7⟩ := Kd.R_slice HO216.out; subst eo7))
 go_loopg [11] k (fun kq v11 w' => ∃ (x5_1 : List Int) (x11_1 : Int), v11 = .int .i64 x11_1 ∧ Aside0 (impl_rowOf.l0 kq a0 a1 x5_1 (y214.length : Int) x11_1 = some r) ∧ Aside0 (kq ≤ k) ∧ Aside0 (Kd.R (Kd.int .u8) 5 w' w.heap.size (fun _ => True) (.slice Ao7 y214.length co7) x5_1) ∧ Aside0 (Below w.heap.size w w'))
 case atStart => exact ⟨(y214), (0), (rs), H', ⟨Nat.le_refl _⟩, ⟨pr HO216⟩, ⟨bw⟩⟩
 case round =>
  clear H'
  try clear p2
  try clear c3
  try clear c3b0
  try clear c3b1
  try clear c4
  try clear c4b0
  try clear c4b1
  try clear c6
  obtain ⟨x5_1, x11_1, rfl, HA, HK1, HO_5, HB⟩ := hrel
  have hl5_1 := (Kd.R_reads' HO_5.out).1
  rw [hl5_1] at HO_5
  (try simp only [hl5_1])
  cases gk with
  | zero => exact absurd HA.out (by simp [impl_rowOf.l0])
  | succ k1 =>
   have H := HA.out
   clear HA
   simp only [impl_rowOf.l0] at H
   by_cases c8 : x11_1 < (y214.length : Int)
   ·rw [if_pos c8] at H
    have c8b0 := decide_eq_true c8
    (try (have c8b8 := c8b0; rw [hl5_1] at c8b8))
    clear c8
    obtain ⟨c9, H⟩ := oi H
    have c9b0 := decide_eq_true c9
    clear c9
    obtain ⟨c10, H⟩ := oi H
    have c10b0 := decide_eq_true c10
    clear c10
    obtain ⟨y217, hy217⟩ : ∃ y_ : List Int, y_ = (x5_1.set (x11_1 : Int).toNat 60) := ⟨_, rfl⟩
    replace H : (if 0 ≤ (wrap64 ((wrap64 (a0 - 1)) - x11_1)) then (if (Go.bits .and .i64 (shr .i64 a1 (wrap64 ((wrap64 (a0 - 1)) - x11_1))) 1) = 1 then (impl_rowOf.l0 k1 a0 a1 (y217.set (x11_1 : Int).toNat 62) (y214.length : Int) (wrap64 (x11_1 + 1))) else (impl_rowOf.l0 k1 a0 a1 y217 (y214.length : Int) (wrap64 (x11_1 + 1)))) else (none)) = some r := by first | (rw [hy217]; with_reducible exact H) | (have H2_ := (Option.bind_some _ _).symm.trans H; rw [hy217]; with_reducible exact H2_) | (have H2_ := (Option.bind_some _ _).symm.trans H; with_reducible exact H2_) | with_reducible exact H | (rw [hy217]; exact H) | exact H
    have Ny217 := Aside0.mk hy217
    clear hy217
    obtain ⟨ji12, hji12⟩ : ∃ j_ : Int, (wrap64 ((wrap64 (a0 - 1)) - x11_1)) = j_ := ⟨_, rfl⟩
    replace H : (if 0 ≤ (ji12) then (if (Go.bits .and .i64 (shr .i64 a1 (ji12)) 1) = 1 then (impl_rowOf.l0 k1 a0 a1 (y217.set (x11_1 : Int).toNat 62) (y214.length : Int) (wrap64 (x11_1 + 1))) else (impl_rowOf.l0 k1 a0 a1 y217 (y214.length : Int) (wrap64 (x11_1 + 1)))) else (none)) = some r := by first | (rw [hji12] at H; exact H) | (simp only [hji12] at H ⊢; exact H)
    have hji12w : (IntKind.i64.wrap ((wrap64 (a0 - 1)) - x11_1)) = ji12 := (i64_w _).trans hji12
    obtain ⟨c13, H⟩ := oi H
    have c13b0 := eq_true c13
    have c13b1 := decide_eq_true c13
    clear c13
    obtain ⟨ji14, hji14⟩ : ∃ j_ : Int, (shr .i64 a1 (ji12)) = j_ := ⟨_, rfl⟩
    replace H : (if (Go.bits .and .i64 (ji14) 1) = 1 then (impl_rowOf.l0 k1 a0 a1 (y217.set (x11_1 : Int).toNat 62) (y214.length : Int) (wrap64 (x11_1 + 1))) else (impl_rowOf.l0 k1 a0 a1 y217 (y214.length : Int) (wrap64 (x11_1 + 1)))) = some r := by first | (rw [hji14] at H; exact H) | (simp only [hji14] at H ⊢; exact H)
    have hji14_ : (a1 / 2 ^ min (ji12).toNat 64) = ji14 := hji14
    have hji14z : (ji12) ≤ 64 → (a1 / 2 ^ (ji12).toNat) = ji14 := shr_small hji14
    by_cases c15 : (Go.bits .and .i64 (ji14) 1) = 1
    ·rw [if_pos c15] at H
     have c15b0 : ((Go.bits .and .i64 (ji14) 1) == 1) = true := beq_iff_eq.mpr c15
     have c15b1 : ((Go.bits .and .i64 (ji14) 1) != 1) = false := bne_eq_false_iff_eq.mpr c15
     clear c15
     obtain ⟨y218, hy218⟩ : ∃ y_ : List Int, y_ = (y217.set (x11_1 : Int).toNat 62) := ⟨_, rfl⟩
     replace H : (impl_rowOf.l0 k1 a0 a1 y218 (y214.length : Int) (wrap64 (x11_1 + 1))) = some r := by first | (rw [hy218]; with_reducible exact H) | (have H2_ := (Option.bind_some _ _).symm.trans H; rw [hy218]; with_reducible exact H2_) | (have H2_ := (Option.bind_some _ _).symm.trans H; with_reducible exact H2_) | with_reducible exact H | (rw [hy218]; exact H) | exact H
     have Ny218 := Aside0.mk hy218
     clear hy218
     have H' := Aside0.mk H
     clear H
     have p11 : 0 ≤ (x11_1 : Int) := of_decide_eq_true asm
     have q11 : (x11_1 : Int) < ((x5_1.length : Int) : Int) := of_decide_eq_true asm
     obtain ⟨go11, co11, eo11, gb11, gl11, cl11, HG11⟩ := Kd.R_form HO_5.out (by omega)
     (first | cases eo11 | (injection eo11 with ea_ en_ ec_; (first | subst ea_ | (injection ea_ with ea_; subst ea_)); subst ec_; clear en_))
     have GB11 := Aside0.mk gb11
     have GG11 := Aside0.mk HG11
     clear gb11 gl11 HG11
     obtain ⟨hx11_0, hf11_0⟩ := Kd.R_celln 0 HO_5.out (x11_1 : Int) p11 q11
     replace p11 := eq_true p11
     replace q11 := eq_true q11
     have HP17 := Kd.R_putg HO_5.out (x11_1 : Int) 60
     go_wp2_with (first | ((with_reducible refine gate_store (t := 5) (p := 16) rfl ?_); refine store_event (t := 5) (p := 16) (v := ?vo_w18) (w1 := (wr.setCell ⟨go11, (x11_1 : Int).toNat, none⟩ (.int .u8 60))) ?hg ?ho ?hn ?hr ?_; (case ho => rfl); (case hg => rfl); (case hn => rfl); (case hr => first | (go_simp; done) | (go_simp; rfl)); intro w18 hw; have hg : wr.grownBy w18 (some go11) := (by rw [hw]; exact HP17.2); have hp_ : Kd.R (Kd.int .u8) 5 w18 w.heap.size (fun _ => True) (.slice (some ⟨go11, 0, none⟩) x5_1.length co7) y217 := (by rw [hw, Ny217.out]; exact HP17.1); clear HP17; replace HO_5 := Aside0.mk (hp_); replace HB := Aside0.mk ((by rw [hw]; exact below_set (HB.out) GB11.out : Below w.heap.size w w18)); clear hg hw hp_; have p16 : 0 ≤ (x11_1 : Int) := of_decide_eq_true asm; have q16 : (x11_1 : Int) < ((x5_1.length : Int) : Int) := of_decide_eq_true asm; obtain ⟨hx16_0, hf16_0⟩ := Kd.R_celln 0 HO_5.out (x11_1 : Int) p16 q16; replace p16 := eq_true p16; replace q16 := eq_true q16; obtain ⟨hy19_, hz19_⟩ := Kd.R_celln 0 HO_5.out (x11_1 : Int) (of_decide_eq_true asm) (of_decide_eq_true asm); have HP19 := Kd.R_putg HO_5.out (x11_1 : Int) 62) | ((with_reducible refine gate_store (t := 5) (p := 27) rfl ?_); refine store_event (t := 5) (p := 27) (v := ?vo_w20) (w1 := (w18.setCell ⟨go11, (x11_1 : Int).toNat, none⟩ (.int .u8 62))) ?hg ?ho ?hn ?hr ?_; (case ho => rfl); (case hg => rfl); (case hn => rfl); (case hr => first | (go_simp; done) | (go_simp; rfl)); intro w20 hw; have hg : w18.grownBy w20 (some go11) := (by rw [hw]; exact HP19.2); have hp_ : Kd.R (Kd.int .u8) 5 w20 w.heap.size (fun _ => True) (.slice (some ⟨go11, 0, none⟩) x5_1.length co7) y218 := (by rw [hw, Ny218.out]; exact HP19.1); clear HP19; replace HO_5 := Aside0.mk (hp_); replace HB := Aside0.mk ((by rw [hw]; exact below_set (HB.out) GB11.out : Below w.heap.size w w20)); clear hg hw hp_))
     (try simp only [← hl5_1])
     go_roundg k1
     case measure => have := HK1.out; omega
     case rel => exact ⟨(y218), (wrap64 (x11_1 + 1)), (rs), H', ⟨by have := HK1.out; omega⟩, ⟨by (try simp only [hl5_1]); (with_reducible repeat (first | apply Kd.R_alloc | apply Kd.R_drewN | apply Kd.R_drew)); exact HO_5.out⟩, ⟨bw⟩⟩
    rw [if_neg c15] at H
    have c15b0 : ((Go.bits .and .i64 (ji14) 1) == 1) = false := beq_eq_false_iff_ne.mpr c15
    have c15b1 : ((Go.bits .and .i64 (ji14) 1) != 1) = true := bne_iff_ne.mpr c15
    have H' := Aside0.mk H
    clear H
    have p11 : 0 ≤ (x11_1 : Int) := of_decide_eq_true asm
    have q11 : (x11_1 : Int) < ((x5_1.length : Int) : Int) := of_decide_eq_true asm
    obtain ⟨go11, co11, eo11, gb11, gl11, cl11, HG11⟩ := Kd.R_form HO_5.out (by omega)
    (first | cases eo11 | (injection eo11 with ea_ en_ ec_; (first | subst ea_ | (injection ea_ with ea_; subst ea_)); subst ec_; clear en_))
    have GB11 := Aside0.mk gb11
    have GG11 := Aside0.mk HG11
    clear gb11 gl11 HG11
    obtain ⟨hx11_0, hf11_0⟩ := Kd.R_celln 0 HO_5.out (x11_1 : Int) p11 q11
    replace p11 := eq_true p11
    replace q11 := eq_true q11
    have HP21 := Kd.R_putg HO_5.out (x11_1 : Int) 60
    go_wp2_with (first | ((with_reducible refine gate_store (t := 5) (p := 16) rfl ?_); refine store_event (t := 5) (p := 16) (v := ?vo_w22) (w1 := (wr.setCell ⟨go11, (x11_1 : Int).toNat, none⟩ (.int .u8 60))) ?hg ?ho ?hn ?hr ?_; (case ho => rfl); (case hg => rfl); (case hn => rfl); (case hr => first | (go_simp; done) | (go_simp; rfl)); intro w22 hw; have hg : wr.grownBy w22 (some go11) := (by rw [hw]; exact HP21.2); have hp_ : Kd.R (Kd.int .u8) 5 w22 w.heap.size (fun _ => True) (.slice (some ⟨go11, 0, none⟩) x5_1.length co7) y217 := (by rw [hw, Ny217.out]; exact HP21.1); clear HP21; replace HO_5 := Aside0.mk (hp_); replace HB := Aside0.mk ((by rw [hw]; exact below_set (HB.out) GB11.out : Below w.heap.size w w22)); clear hg hw hp_))
    (try simp only [← hl5_1])
    go_roundg k1
    case measure => have := HK1.out; omega
    case rel => exact ⟨(y217), (wrap64 (x11_1 + 1)), (rs), H', ⟨by have := HK1.out; omega⟩, ⟨by (try simp only [hl5_1]); (with_reducible repeat (first | apply Kd.R_alloc | apply Kd.R_drewN | apply Kd.R_drew)); exact HO_5.out⟩, ⟨bw⟩⟩
   rw [if_neg c8] at H
   have c8b0 := decide_eq_false c8
   (try (have c8b8 := c8b0; rw [hl5_1] at c8b8))
   clear c8
   obtain rfl := Option.some.inj H
   have hcv23 := own_string (P := Tryz.prog) Tryz.underlying90 Tryz.underlying5 Tryz.underlying9 (Kd.own_of_R HO_5.out)
   go_wp2
   go_ret
   exact ⟨rs, bw⟩
/-! ### impl_solutions: function 46 -/
def impl_solutions_clo.f (k : Nat) (s0 : ByteArray) (x0 : Int) (x1 : Int) (x2 : Int) (x3 : Int) : Option Bool := (impl_Clue_fits.f k x0 x1 x2 x3 s0).bind fun t => some (!t)
theorem impl_solutions_clo.mono : ∀ s0 x0 x1 x2 x3 k, LeO (impl_solutions_clo.f k s0 x0 x1 x2 x3) (impl_solutions_clo.f (k + 1) s0 x0 x1 x2 x3) := by
  intro s0 x0 x1 x2 x3 k
  unfold impl_solutions_clo.f
  exact LeO.bind (impl_Clue_fits.mono _ _ _ _ _ k) (fun _ => LeO.refl _)
set_option maxHeartbeats 8000000 in
set_option maxRecDepth 100000 in
theorem impl_solutions_clo.calls (k : Nat) (g : Nat) (s0 : ByteArray) (x0 : Int) (x1 : Int) (x2 : Int) (x3 : Int) (r : Bool) (w : World) (hm : Dr.Tab w) (hg0 : w.cell? ⟨g, 0, none⟩ = some (.string s0)) (h : impl_solutions_clo.f k s0 x0 x1 x2 x3 = some r) :
  Calls Tryz.prog 64 (#[.agg #[.int .i64 x0, .int .i64 x1, .int .i64 x2, .int .i64 x3]] ++ #[.pointer (some ⟨g, 0, none⟩)]) w fun e w' => e = .returned (.bool r) ∧ Below w.heap.size w w' := by
 have hu := Tryz.underlying26
 have HB := Aside0.mk (Below.refl w.heap.size w)
 have HG0 := Aside0.mk hg0
 have HMM := Aside0.mk hm
 clear hg0 hm
 replace h := Option.bind_eq_some_iff.mp h
 obtain ⟨t, A0, H⟩ := h
 have A1 := Aside0.mk A0
 clear A0
 obtain rfl := Option.some.inj H
 clear H
 show Calls Tryz.prog 64 #[.agg #[.int .i64 x0, .int .i64 x1, .int .i64 x2, .int .i64 x3], .pointer (some ⟨g, 0, none⟩)] w _
 go_enter Tryz.func64, Tryz.ntmps64
 go_wp2_with (first | ((with_reducible refine gd 2 ?_); refine box_event ?hg (N := 2) ?hd (cs := #[.int .i64 x0, .int .i64 x1, .int .i64 x2, .int .i64 x3]) (t := 26) ?hr ?_; (case hd => rfl); (case hg => rfl); (case hr => first | (go_simp; done) | (go_simp; rfl)); intro gb hg w8 hbox hb; have n0_ := Aside0.mk (below_step (by repeat (first | exact HB.out | apply pw_below_drewN)) hb); have n1_ := Aside0.mk hbox; have hcg0 : w8.cell? ⟨g, 0, none⟩ = some (.string s0) := (hb.cell (World.block_lt_of_cell? w _ HG0.out)).trans HG0.out; have hcz0 : w8.cell? ⟨gb, 0, none⟩ = some (.int .i64 x0) := (blk_cell n1_.out 0).trans rfl; have hcz1 : w8.cell? ⟨gb, 1, none⟩ = some (.int .i64 x1) := (blk_cell n1_.out 1).trans rfl; have hcz2 : w8.cell? ⟨gb, 2, none⟩ = some (.int .i64 x2) := (blk_cell n1_.out 2).trans rfl; have hcz3 : w8.cell? ⟨gb, 3, none⟩ = some (.int .i64 x3) := (blk_cell n1_.out 3).trans rfl; clear HB; have HB := n0_; have BK1 := n1_; clear n0_ n1_ hb hbox hg) | (go_at_call 37; (with_reducible refine (impl_Clue_fits.calls k x0 x1 x2 x3 s0 t _ (HMM.out.below HB.out) A1.out).mono ?_); rintro e w' ⟨rfl, hb⟩; have n0_ := Aside0.mk (below_step HB.out hb); clear HB; have HB := n0_; clear n0_ hb))
 go_ret
 exact ⟨by first | rfl | simp, by repeat (first | exact HB.out | apply pw_below_drewN)⟩
def impl_solutions_idx.l0 : Nat → ByteArray → List (S26) → Int → Option Int
  | 0, _, _, _ => none
  | k + 1, s0, l, i => if i < (l.length : Int) then (if 0 ≤ i then ((impl_solutions_clo.f k s0 (rd_T26 l i).f0 (rd_T26 l i).f1 (rd_T26 l i).f2 (rd_T26 l i).f3).bind fun t => (if t = true then (some i) else (impl_solutions_idx.l0 k s0 l (wrap64 (i + 1))))) else none) else (some (-1))
theorem impl_solutions_idx.mono_l : ∀ k, (∀ y0 y1 y2, LeO (impl_solutions_idx.l0 k y0 y1 y2) (impl_solutions_idx.l0 (k + 1) y0 y1 y2))
  | 0 => fun _ _ _ r h => by simp [impl_solutions_idx.l0] at h
  | k + 1 => by
    have ih0 := impl_solutions_idx.mono_l k
    · intro y0 y1 y2
      unfold impl_solutions_idx.l0
      repeat' first
      | (with_reducible exact ih0 _ _ _)
      | (with_reducible exact impl_solutions_clo.mono _ _ _ _ _ _)
      | (with_reducible exact LeO.refl _)
      | (with_reducible exact LeO.none _)
      | (with_reducible refine LeO.ite ?_ ?_)
      | (with_reducible refine LeO.bind ?_ (fun _ => ?_))
set_option maxHeartbeats 8000000 in
set_option maxRecDepth 100000 in
theorem impl_solutions_idx.calls (k : Nat) (g : Nat) (s0 : ByteArray) (A0 : Option Addr) (c0 : Nat) (l0 : List (S26)) (r : Int) (w : World) (hr0 : Kd.C k26 w A0 l0.length l0) (hc0 : l0.length ≤ c0) (hm : Dr.Tab w) (hg0 : w.cell? ⟨g, 0, none⟩ = some (.string s0)) (h : impl_solutions_idx.l0 k s0 l0 0 = some r) :
  Calls Tryz.prog 80 #[.slice A0 l0.length c0, .func (.func 64) #[] #[.pointer (some ⟨g, 0, none⟩)]] w fun e w' => e = .returned (.int .i64 r) ∧ Below w.heap.size w w' := by
 have hu := Tryz.underlying26
 have HR0 := Aside0.mk hr0
 have HC0 := Aside0.mk hc0
 clear hr0 hc0
 have HG0 := Aside0.mk hg0
 have HMM := Aside0.mk hm
 clear hg0 hm
 have HB := Aside0.mk (Below.refl w.heap.size w)
 have H' := Aside0.mk h
 clear h
 go_enter Tryz.func80, Tryz.ntmps80
 go_wp2
 go_loopg [8] k (fun kq v8 w' => ∃ (x8 : Int), v8 = .int .i64 x8 ∧ Aside0 (impl_solutions_idx.l0 kq s0 l0 x8 = some r) ∧ Aside0 (kq ≤ k) ∧ Aside0 (Below w.heap.size w w'))
 case atStart => exact ⟨(0), (rs), H', ⟨Nat.le_refl _⟩, HB⟩
 case round =>
  clear H' HB
  obtain ⟨x8, rfl, HA, HK1, HB⟩ := hrel
  cases gk with
  | zero => exact absurd HA.out (by simp [impl_solutions_idx.l0])
  | succ k1 =>
   have H := HA.out
   clear HA
   simp only [impl_solutions_idx.l0] at H
   by_cases c4 : x8 < (l0.length : Int)
   ·rw [if_pos c4] at H
    have c4b0 := decide_eq_true c4
    obtain ⟨c5, H⟩ := oi H
    have c5b0 := decide_eq_true c5
    replace H := Option.bind_eq_some_iff.mp H
    obtain ⟨t1, A0', H⟩ := H
    have A1 := Aside0.mk A0'
    clear A0'
    obtain ⟨ad, e1, hx0, hx1, hx2, hx3⟩ := at_T26 HR0.out x8 c5 c4
    cases e1
    replace hx0 := (HB.out.cell (World.block_lt_of_cell? w _ hx0)).trans hx0
    replace hx1 := (HB.out.cell (World.block_lt_of_cell? w _ hx1)).trans hx1
    replace hx2 := (HB.out.cell (World.block_lt_of_cell? w _ hx2)).trans hx2
    replace hx3 := (HB.out.cell (World.block_lt_of_cell? w _ hx3)).trans hx3
    have p1 := eq_true c5
    have q1 := eq_true c4
    clear c4 c5
    cases t1 with
    | true =>
     obtain rfl := Option.some.inj H
     clear H
     go_wp2_with (((with_reducible refine gd 16 ?_); refine Fv.goesV_ (some 16) rfl rfl Tryz.func64 (by kernel_rfl) rfl #[.agg #[.int .i64 (rd_T26 l0 x8).f0, .int .i64 (rd_T26 l0 x8).f1, .int .i64 (rd_T26 l0 x8).f2, .int .i64 (rd_T26 l0 x8).f3]] rfl (by first | rfl | (go_simp; done)) (by first | rfl | (go_simp; done)) ?_; (refine (impl_solutions_clo.calls _ g s0 _ _ _ _ _ _ (HMM.out.below HB.out) ((HB.out.cell (World.block_lt_of_cell? w _ HG0.out)).trans HG0.out) A1.out).mono ?_); rintro e w' ⟨rfl, hb⟩; refine ⟨_, rfl, ?_⟩; have n0_ := Aside0.mk (below_step HB.out hb); clear HB; have HB := n0_; clear n0_ hb))
     go_ret
     exact ⟨by first | rfl | simp, HB.out⟩
    | false =>
     have H' := Aside0.mk (show impl_solutions_idx.l0 k1 s0 l0 (wrap64 (x8 + 1)) = some r from by simpa using H)
     clear H
     go_wp2_with (((with_reducible refine gd 16 ?_); refine Fv.goesV_ (some 16) rfl rfl Tryz.func64 (by kernel_rfl) rfl #[.agg #[.int .i64 (rd_T26 l0 x8).f0, .int .i64 (rd_T26 l0 x8).f1, .int .i64 (rd_T26 l0 x8).f2, .int .i64 (rd_T26 l0 x8).f3]] rfl (by first | rfl | (go_simp; done)) (by first | rfl | (go_simp; done)) ?_; (refine (impl_solutions_clo.calls _ g s0 _ _ _ _ _ _ (HMM.out.below HB.out) ((HB.out.cell (World.block_lt_of_cell? w _ HG0.out)).trans HG0.out) A1.out).mono ?_); rintro e w' ⟨rfl, hb⟩; refine ⟨_, rfl, ?_⟩; have n0_ := Aside0.mk (below_step HB.out hb); clear HB; have HB := n0_; clear n0_ hb))
     go_roundg k1
     case measure => have := HK1.out; omega
     case rel => exact ⟨(wrap64 (x8 + 1)), (rs), H', ⟨by have := HK1.out; omega⟩, HB⟩
   rw [if_neg c4] at H
   have c4b0 := decide_eq_false c4
   clear c4
   obtain rfl := Option.some.inj H
   clear H
   go_wp2
   go_ret
   exact ⟨by first | rfl | simp, HB.out⟩
def impl_solutions_has.f (k : Nat) (s0 : ByteArray) (l : List (S26)) : Option Bool := (impl_solutions_idx.l0 k s0 l 0).bind fun i => some (decide (0 ≤ i))
theorem impl_solutions_has.mono : ∀ s0 a0 k, LeO (impl_solutions_has.f k s0 a0) (impl_solutions_has.f (k + 1) s0 a0) := by
  intro s0 a0 k
  unfold impl_solutions_has.f
  repeat' first
      | (with_reducible exact impl_solutions_idx.mono_l k _ _ _)
      | (with_reducible exact LeO.refl _)
      | (with_reducible exact LeO.none _)
      | (with_reducible refine LeO.ite ?_ ?_)
      | (with_reducible refine LeO.bind ?_ (fun _ => ?_))
set_option maxHeartbeats 8000000 in
set_option maxRecDepth 100000 in
theorem impl_solutions_has.calls (k : Nat) (g : Nat) (s0 : ByteArray) (A0 : Option Addr) (c0 : Nat) (l0 : List (S26)) (r : Bool) (w : World) (hr0 : Kd.C k26 w A0 l0.length l0) (hc0 : l0.length ≤ c0) (hm : Dr.Tab w) (hg0 : w.cell? ⟨g, 0, none⟩ = some (.string s0)) (h : impl_solutions_has.f k s0 l0 = some r) :
  Calls Tryz.prog 58 #[.slice A0 l0.length c0, .func (.func 64) #[] #[.pointer (some ⟨g, 0, none⟩)]] w fun e w' => e = .returned (.bool r) ∧ Below w.heap.size w w' := by
 have HR0 := Aside0.mk hr0
 have HC0 := Aside0.mk hc0
 clear hr0 hc0
 have HG0 := Aside0.mk hg0
 have HMM := Aside0.mk hm
 clear hg0 hm
 have HB := Aside0.mk (Below.refl w.heap.size w)
 replace h := Option.bind_eq_some_iff.mp h
 obtain ⟨t, A0', H⟩ := h
 have A1 := Aside0.mk A0'
 clear A0'
 obtain rfl := Option.some.inj H
 clear H
 go_enter Tryz.func58, Tryz.ntmps58
 go_wp2_with (go_at_call 80; (refine (impl_solutions_idx.calls k g s0 A0 c0 l0 t _ HR0.out HC0.out HMM.out HG0.out A1.out).mono ?_); rintro e w' ⟨rfl, hb⟩; have n0_ := Aside0.mk (below_step HB.out hb); clear HB; have HB := n0_; clear n0_ hb)
 go_ret
 exact ⟨by first | rfl | simp, HB.out⟩
def impl_solutions.l0 : Nat → Int → List S26 → List ByteArray → Int → Int → Option (List ByteArray)
  | 0, _, _, _, _, _ => none
  | k + 1, s, l, o, m, n => if n < m then ((impl_rowOf.f k s n).bind fun row => (impl_solutions_has.f k row l).bind fun t => (if t = true then impl_solutions.l0 k s l o m (wrap64 (n + 1)) else (if o.length < 8796093022208 then impl_solutions.l0 k s l (o ++ [row]) m (wrap64 (n + 1)) else none))) else some o
theorem impl_solutions.mono_l : ∀ k, (∀ y0 y1 y2 y3 y4, LeO (impl_solutions.l0 k y0 y1 y2 y3 y4) (impl_solutions.l0 (k + 1) y0 y1 y2 y3 y4))
  | 0 => fun _ _ _ _ _ r h => by simp [impl_solutions.l0] at h
  | k + 1 => by
    have ih0 := impl_solutions.mono_l k
    · intro y0 y1 y2 y3 y4
      unfold impl_solutions.l0
      repeat' first
      | (with_reducible exact ih0 _ _ _ _ _)
      | (with_reducible exact impl_solutions_has.mono _ _ _)
      | (with_reducible exact impl_rowOf.mono _ _ _)
      | (with_reducible exact LeO.refl _)
      | (with_reducible exact LeO.none _)
      | (with_reducible refine LeO.ite ?_ ?_)
      | (with_reducible refine LeO.bind ?_ (fun _ => ?_))
def impl_solutions.f (k : Nat) (a0 : Int) (l1 : List S26) : Option (List ByteArray) := if 0 ≤ a0 then impl_solutions.l0 k a0 l1 [] (shl .i64 1 a0) 0 else none
theorem impl_solutions.mono : ∀ a0 a1 k, LeO (impl_solutions.f k a0 a1) (impl_solutions.f (k + 1) a0 a1) := by
  intro a0 a1 k
  unfold impl_solutions.f
  exact LeO.ite (impl_solutions.mono_l k _ _ _ _ _) (LeO.none _)
set_option maxHeartbeats 8000000 in
set_option maxRecDepth 100000 in
theorem impl_solutions.calls (k : Nat) (a0 : Int) (A1 : Option Addr) (c1 : Nat) (l1 : List (S26)) (r : List ByteArray) (w : World) (hm : Dr.Tab w) (hr1 : Kd.C k26 w A1 l1.length l1) (hc1 : l1.length ≤ c1) (h : impl_solutions.f k a0 l1 = some r) :
  Calls Tryz.prog 46 #[.int .i64 a0, .slice A1 l1.length c1] w fun e w' => ∃ v0_ : Value, e = .returned (v0_) ∧ Kd.R Kd.string 9 w' w.heap.size (fun _ => True) v0_ r ∧ Below w.heap.size w w' := by
 have hu := Tryz.underlying26
 have HR1 := Aside0.mk hr1
 have HC1 := Aside0.mk hc1
 have HMM := Aside0.mk hm
 clear hr1 hc1 hm
 have HB := Aside0.mk (Below.refl w.heap.size w)
 unfold impl_solutions.f at h
 by_cases c3 : 0 ≤ a0
 ·rw [if_pos c3] at h
  have c3b0 := eq_true c3
  have c3b1 := decide_eq_true c3
  have c3b2 : decide (a0 < 0) = false := decide_eq_false (by omega)
  clear c3
  obtain ⟨m, hm⟩ : ∃ j_ : Int, (shl .i64 1 a0) = j_ := ⟨_, rfl⟩
  rw [hm] at h
  have hji4_ : (IntKind.i64.wrap (1 * 2 ^ min a0.toNat 64)) = m := hm
  have hji4z : a0 ≤ 64 → (IntKind.i64.wrap (1 * 2 ^ a0.toNat)) = m := shl_small hm
  have hji4u : (IntKind.i64.wrap (2 ^ min a0.toNat 64)) = m := by have h_ := hji4_; rw [Int.one_mul] at h_; exact h_
  have hji4v : a0 ≤ 64 → (IntKind.i64.wrap (2 ^ a0.toNat)) = m := fun hle_ => by have h_ := hji4z hle_; rw [Int.one_mul] at h_; exact h_
  have hji4y : (wrap64 (1 * 2 ^ min a0.toNat 64)) = m := (i64_w _).symm.trans hji4_
  have hji4x : a0 ≤ 64 → (wrap64 (1 * 2 ^ a0.toNat)) = m := fun h_ => (i64_w _).symm.trans (hji4z h_)
  clear hm
  have H' := Aside0.mk h
  clear h
  go_enter Tryz.func46, Tryz.ntmps46
  go_wp2_with (first | ((with_reducible refine gd 8 ?_); refine Kd.R_lit Kd.string _ 9 ?hg (N := 8) ?hd (xs := ([] : List ByteArray)) (inner := []) (ok := fun _ => True) (okp := fun _ => True) ?hr ?hp (fun _ hk => hk) trivial (Below.refl _ _) (Nat.le_refl _) (by simp) ?_; (case hd => rfl); (case hg => rfl); (case hr => first | (go_simp; done) | (go_simp; rfl)); (case hp => exact (Reps.none _ _)); intro v172 w2 ho3 hb hg_ hnew_; clear hg_ hnew_; have HO := Aside0.mk (Kd.R_lower ho3 (below_size HB.out)); replace HB := Aside0.mk (below_step HB.out hb); clear hb ho3))
  go_loopg [5, 11] k (fun kq v5 v11 w' => ∃ (o : List ByteArray) (n : Int), v11 = .int .i64 n ∧ Aside0 (impl_solutions.l0 kq a0 l1 o m n = some r) ∧ Aside0 (kq ≤ k) ∧ Aside0 (Kd.R Kd.string 9 w' w.heap.size (fun _ => True) v5 o) ∧ Aside0 (Below w.heap.size w w'))
  case atStart => exact ⟨[], 0, rfl, H', ⟨Nat.le_refl _⟩, HO, HB⟩
  case round =>
   clear H' HB HO
   obtain ⟨o, n, rfl, HA, HK1, HO, HB⟩ := hrel
   cases gk with
   | zero => exact absurd HA.out (by simp [impl_solutions.l0])
   | succ k1 =>
    have H := HA.out
    clear HA
    simp only [impl_solutions.l0] at H
    by_cases c5 : n < m
    ·rw [if_pos c5] at H
     have c5b0 := decide_eq_true c5
     clear c5
     obtain ⟨row, A0, H⟩ := Option.bind_eq_some_iff.mp H
     have A1 := Aside0.mk A0
     clear A0
     obtain ⟨t, A0, H⟩ := Option.bind_eq_some_iff.mp H
     have A2 := Aside0.mk A0
     clear A0
     cases t with
     | true =>
      rw [if_pos rfl] at H
      have H' := Aside0.mk H
      clear H
      go_wp2_with (first | (go_at_call 63; (with_reducible refine (impl_rowOf.calls k1 a0 n row _ A1.out).mono ?_); rintro e w3 ⟨rfl, hb⟩; replace HO := Aside0.mk (Kd.R_below HO.out hb); replace HB := Aside0.mk (below_step HB.out hb); clear hb) | (go_at_call 58; (refine (impl_solutions_has.calls k1 w3.heap.size row _ c1 l1 true _ (Kd.C_below HR1.out (below_alloc HB.out _)) HC1.out (HMM.out.below (below_alloc HB.out _)) ((blk_cell (blk_new w3 _) 0).trans rfl) A2.out).mono ?_); rintro e w4 ⟨rfl, hb⟩; have hc7 : w4.cell? ⟨w3.heap.size, 0, none⟩ = some (.string row) := (blk_cell (blk_below (blk_new w3 _) hb) 0).trans rfl; replace HO := Aside0.mk (Kd.R_below (Kd.R_alloc HO.out _) hb); replace HB := Aside0.mk (below_step (below_alloc HB.out _) hb); clear hb))
      go_roundg k1
      case measure => have := HK1.out; omega
      case rel => exact ⟨o, (wrap64 (n + 1)), (rs), H', ⟨by have := HK1.out; omega⟩, HO, HB⟩
     | false =>
      rw [if_neg (by decide)] at H
      obtain ⟨c6, H⟩ := oi H
      have LM := Aside0.mk c6
      clear c6
      have H' := Aside0.mk H
      clear H
      go_wp2_with (first | (go_at_call 63; (with_reducible refine (impl_rowOf.calls k1 a0 n row _ A1.out).mono ?_); rintro e w3 ⟨rfl, hb⟩; replace HO := Aside0.mk (Kd.R_below HO.out hb); replace HB := Aside0.mk (below_step HB.out hb); clear hb) | (go_at_call 58; (refine (impl_solutions_has.calls k1 w3.heap.size row _ c1 l1 false _ (Kd.C_below HR1.out (below_alloc HB.out _)) HC1.out (HMM.out.below (below_alloc HB.out _)) ((blk_cell (blk_new w3 _) 0).trans rfl) A2.out).mono ?_); rintro e w4 ⟨rfl, hb⟩; have hc7 : w4.cell? ⟨w3.heap.size, 0, none⟩ = some (.string row) := (blk_cell (blk_below (blk_new w3 _) hb) 0).trans rfl; replace HO := Aside0.mk (Kd.R_below (Kd.R_alloc HO.out _) hb); replace HB := Aside0.mk (below_step (below_alloc HB.out _) hb); clear hb) | ((with_reducible refine gate_builtin (b := .append) (xs := #[.tmp 21, .tmp 23]) rfl ?_); at_builtin; refine Kd.R_append Kd.string (w0 := w) w.heap.size rfl (.tmp 21) (.tmp 23) 42 9 (.string ⟨#[]⟩) 16 rfl Tryz.underlying42 info9 rfl (by decide) (by omega) u5 o row [.string row] (fun _ => True) (fun _ => False) rfl rfl ?aP (fun _ hk => hk.elim) ?aF ?aO ?aB ?aS ?aL ?_; (case aP => exact rfl); (case aB => repeat (first | exact HB.out | apply below_alloc)); (case aF => exact (fun _ _ => trivial)); (case aO => (with_reducible repeat (first | apply Kd.R_alloc | apply Kd.R_drewN | apply Kd.R_drew)); exact HO.out); (case aS => exact (below_size (by repeat (first | exact HB.out | apply below_alloc)))); (case aL => have := LM.out; omega); intro v164 w19 ho hb hg hat; clear HB HO; have HB := Aside0.mk hb; have HO := Aside0.mk ho; clear ho hb hg hat))
      go_roundg k1
      case measure => have := HK1.out; omega
      case rel => exact ⟨_, (wrap64 (n + 1)), (rs), H', ⟨by have := HK1.out; omega⟩, HO, HB⟩
    rw [if_neg c5] at H
    have c5b0 := decide_eq_false c5
    clear c5
    obtain rfl := Option.some.inj H
    clear H
    go_wp2
    go_ret
    exact ⟨_, rfl, HO.out, HB.out⟩
 rw [if_neg c3] at h
 exact absurd h (by simp)

/-! ### impl_Solutions: function 16 -/
def impl_Solutions.f (k : Nat) (a0_0 : Int) (l0_1 : List (S26)) : Option (List ByteArray × Bool) := (impl_isPuzzle.f k a0_0 l0_1).bind fun t220 => (if t220 = true then ((impl_solutions.f k a0_0 l0_1).bind fun t221 => (some (t221, true))) else (some (([] : List ByteArray), false)))
theorem impl_Solutions.mono : ∀ a0 a1 k, LeO (impl_Solutions.f k a0 a1) (impl_Solutions.f (k + 1) a0 a1) := by
  intro a0 a1 k
  unfold impl_Solutions.f
  repeat' first
      | (with_reducible exact impl_isPuzzle.mono _ _ _)
      | (with_reducible exact impl_solutions.mono _ _ _)
      | (with_reducible exact LeO.refl _)
      | (with_reducible exact LeO.none _)
      | (with_reducible refine LeO.ite ?_ ?_)
      | (with_reducible refine LeO.bind ?_ (fun _ => ?_))
      | exact impl_isPuzzle.mono _ _ _
      | exact impl_solutions.mono _ _ _
      | exact LeO.none _
      | refine LeO.ite ?_ ?_
      | refine LeO.bind ?_ (fun _ => ?_)
set_option maxHeartbeats 8000000 in
set_option maxRecDepth 100000 in
theorem impl_Solutions.calls (k : Nat) (a0_0 : Int) (A0_1 : Option Addr) (c0_1 : Nat) (l0_1 : List (S26)) (r1 : List ByteArray) (r2 : Bool) (w : World) (hm : Dr.Tab w) (hr0_1 : Kd.C k26 w A0_1 l0_1.length l0_1) (hc0_1 : l0_1.length ≤ c0_1) (h : impl_Solutions.f k a0_0 l0_1 = some (r1, r2)) :
  Calls Tryz.prog 16 #[.agg #[.int .i64 a0_0, .slice A0_1 l0_1.length c0_1]] w fun e w' => ∃ v0_ : Value, e = .returned (.tuple #[v0_, .bool r2]) ∧ Kd.R Kd.string 9 w' w.heap.size (fun _ => True) v0_ r1 ∧ Below w.heap.size w w' := by
 have hu24 := Tryz.underlying24
 have HR0_1 := Aside0.mk hr0_1
 have HC0_1 := Aside0.mk hc0_1
 clear hr0_1 hc0_1
 have HB := Aside0.mk (Below.refl w.heap.size w)
 have HMM := Aside0.mk hm
 clear hm
 unfold impl_Solutions.f at h
 have H := h
 clear h
 obtain ⟨t220, A2, H⟩ := ob H
 (try dsimp only at H)
 go_enter Tryz.func16, Tryz.ntmps16
 go_wp2_with (((with_reducible refine gd 1 ?_); refine bx 1 24 #[.int .i64 a0_0, .slice A0_1 l0_1.length c0_1] ?_; intro gb219 hg w5 hbox hb; have BK219 := hbox; have GW219 := gs hg; have GE219 := gs hg; replace HB := bs hb; clear hb hbox hg; have hz6 := z2 BK219; refine halt ?_))
 by_cases c3 : t220 = true
 ·subst c3
  rw [if_pos rfl] at H
  obtain ⟨t221, A4, H⟩ := ob H
  (try dsimp only at H)
  simp only [Option.some.injEq, Prod.mk.injEq] at H
  obtain ⟨rfl, rfl⟩ := H
  refine Aside0.mk ?_
  try go_wp2_with (first | ((with_reducible refine gc 41 ?_); refine gl (some 5) Tryz.func41 #[.agg #[.int .i64 a0_0, .slice A0_1 l0_1.length c0_1]] ?_; (with_reducible refine (impl_isPuzzle.calls k a0_0 _ _ l0_1 true _ ?_ ?_ A2.out).mono ?_); exact cb HR0_1; exact HC0_1.out; rintro e w7 ⟨rfl, hb⟩; refine ⟨_, rfl, ?_⟩; replace BK219 := nk BK219 hb; replace HB := bs hb; (try clear hb); have hz8 := z2 BK219) | ((with_reducible refine gc 46 ?_); refine gl (some 11) Tryz.func46 #[.int .i64 a0_0, .slice A0_1 l0_1.length c0_1] ?_; (with_reducible refine (impl_solutions.calls k a0_0 _ _ l0_1 t221 _ ?_ ?_ ?_ A4.out).mono ?_); exact Dr.mm HMM; exact cb HR0_1; exact HC0_1.out; rintro e w9 ⟨v222, rfl, ho0, hb⟩; refine ⟨_, rfl, ?_⟩; have HO223 := Aside0.mk (Kd.R_lower ho0 (below_size bw)); replace HB := bs hb; (try clear hb); (try clear ho0)))
  go_ret2
  exact ⟨_, rs, pr HO223, bw⟩
 replace c3 := Bool.eq_false_iff.mpr c3
 subst c3
 rw [if_neg (show ¬ (false = true) by decide)] at H
 simp only [Option.some.injEq, Prod.mk.injEq] at H
 obtain ⟨rfl, rfl⟩ := H
 refine Aside0.mk ?_
 try go_wp2_with (((with_reducible refine gc 41 ?_); refine gl (some 5) Tryz.func41 #[.agg #[.int .i64 a0_0, .slice A0_1 l0_1.length c0_1]] ?_; (with_reducible refine (impl_isPuzzle.calls k a0_0 _ _ l0_1 false _ ?_ ?_ A2.out).mono ?_); exact cb HR0_1; exact HC0_1.out; rintro e w12 ⟨rfl, hb⟩; refine ⟨_, rfl, ?_⟩; replace HB := bs hb; (try clear hb)))
 go_ret2
 exact ⟨_, rs, by first | exact Kd.R_nil _ _ _ _ _ | exact Kd.N_nil _ _ _ _ _ | exact Kd.V_nil _ _ _ _ _ | exact Kd.Q_nil _ _ _ _ _ | exact Kd.S_nil _ _ _ _ _, bw⟩

/-! ### impl_IsSolved: function 15 -/
def impl_IsSolved.f (k : Nat) (a0_0 : Int) (l0_1 : List (S26)) : Option (Bool × Bool) := (impl_Solutions.f k a0_0 l0_1).bind fun bt225 => (some (((bt225.1.length : Int) == 1), bt225.2))
theorem impl_IsSolved.mono : ∀ a0 a1 k, LeO (impl_IsSolved.f k a0 a1) (impl_IsSolved.f (k + 1) a0 a1) := by
  intro a0 a1 k
  unfold impl_IsSolved.f
  repeat' first
      | (with_reducible exact impl_Solutions.mono _ _ _)
      | (with_reducible exact LeO.refl _)
      | (with_reducible exact LeO.none _)
      | (with_reducible refine LeO.ite ?_ ?_)
      | (with_reducible refine LeO.bind ?_ (fun _ => ?_))
      | exact impl_Solutions.mono _ _ _
      | exact LeO.none _
      | refine LeO.ite ?_ ?_
      | refine LeO.bind ?_ (fun _ => ?_)
set_option maxHeartbeats 8000000 in
set_option maxRecDepth 100000 in
theorem impl_IsSolved.calls (k : Nat) (a0_0 : Int) (A0_1 : Option Addr) (c0_1 : Nat) (l0_1 : List (S26)) (r1 : Bool) (r2 : Bool) (w : World) (hm : Dr.Tab w) (hr0_1 : Kd.C k26 w A0_1 l0_1.length l0_1) (hc0_1 : l0_1.length ≤ c0_1) (h : impl_IsSolved.f k a0_0 l0_1 = some (r1, r2)) :
  Calls Tryz.prog 15 #[.agg #[.int .i64 a0_0, .slice A0_1 l0_1.length c0_1]] w fun e w' => e = .returned (.tuple #[.bool r1, .bool r2]) ∧ Below w.heap.size w w' := by
 have hu24 := Tryz.underlying24
 have HR0_1 := Aside0.mk hr0_1
 have HC0_1 := Aside0.mk hc0_1
 clear hr0_1 hc0_1
 have HB := Aside0.mk (Below.refl w.heap.size w)
 have HMM := Aside0.mk hm
 clear hm
 unfold impl_IsSolved.f at h
 have H := h
 clear h
 obtain ⟨⟨t225, t228⟩, A2, H⟩ := ob H
 (try dsimp only at H)
 simp only [Option.some.injEq, Prod.mk.injEq] at H
 obtain ⟨rfl, rfl⟩ := H
 go_enter Tryz.func15, Tryz.ntmps15
 go_wp2_with (first | ((with_reducible refine gd 1 ?_); refine bx 1 24 #[.int .i64 a0_0, .slice A0_1 l0_1.length c0_1] ?_; intro gb224 hg w3 hbox hb; have BK224 := hbox; have GW224 := gs hg; have GE224 := gs hg; replace HB := bs hb; clear hb hbox hg; have hz4 := z2 BK224) | ((with_reducible refine gc 16 ?_); refine gl (some 8) Tryz.func16 #[.agg #[.int .i64 a0_0, .slice A0_1 l0_1.length c0_1]] ?_; (with_reducible refine (impl_Solutions.calls k a0_0 _ _ l0_1 t225 t228 _ ?_ ?_ ?_ A2.out).mono ?_); exact Dr.mm HMM; exact cb HR0_1; exact HC0_1.out; rintro e w5 ⟨v226, rfl, ho0, hb⟩; refine ⟨_, rfl, ?_⟩; have HO227 := Aside0.mk (Kd.R_lower ho0 (below_size bw)); replace HB := bs hb; (try clear hb); (try clear ho0); obtain ⟨Ao6, co6, eo6⟩ := Kd.R_slice HO227.out; subst eo6))
 go_ret2
 exact ⟨rs, bw⟩

/-! ### impl_Clue: function 44 -/
def impl_Clue.f (l0 : List (S26)) : Option (List (S26)) := if l0.length < 4398046511104 then (some l0) else none
set_option maxHeartbeats 8000000 in
set_option maxRecDepth 100000 in
theorem impl_Clue.calls (A0 : Option Addr) (c0 : Nat) (l0 : List (S26)) (r : List (S26)) (w : World) (hr0 : Kd.C k26 w A0 l0.length l0) (hc0 : l0.length ≤ c0) (h : impl_Clue.f l0 = some r) :
  Calls Tryz.prog 44 #[.slice A0 l0.length c0] w fun e w' => ∃ v0_ : Value, e = .returned (v0_) ∧ Kd.R k26 26 w' w.heap.size (fun _ => True) v0_ r ∧ Below w.heap.size w w' := by
 have HR0 := Aside0.mk hr0
 have HC0 := Aside0.mk hc0
 clear hr0 hc0
 have HB := Aside0.mk (Below.refl w.heap.size w)
 unfold impl_Clue.f at h
 by_cases c2 : l0.length < 4398046511104
 ·rw [if_pos c2] at h
  have LMc2 := Aside0.mk c2
  clear c2
  obtain rfl := Option.some.inj h
  clear h
  have qnil : ∀ (w : World) (a : Option Addr) (n c n' c' : Nat), (binOp .eql 22 (.slice a n c) (.slice none n' c')).run Tryz.prog w = .ok (.bool a.isNone) w := fun w a n c n' c' => Lib.run_eql_slice_nil w _ _ a n c n' c' Tryz.underlying22
  cases A0 with
  | none =>
   obtain rfl : l0 = [] := by
    rcases l0 with _ | ⟨x, l0⟩
    ·rfl
    obtain ⟨ad, he, _⟩ := HR0.out.2.2 (by simp)
    cases he
   go_enter Tryz.func44, Tryz.ntmps44
   go_wp2
   go_ret
   exact ⟨_, rfl, Kd.R_nil _ _ _ _ _, by repeat (first | exact HB.out | apply pw_below_drewN)⟩
  | some ad0 =>
   obtain ⟨y172, hy172⟩ : ∃ y_ : List (S26), y_ = ([] : List (S26)) := ⟨_, rfl⟩
   have Ny172 := Aside0.mk hy172
   obtain ⟨y175, hy175⟩ : ∃ y_ : List (S26), y_ = y172 ++ l0 := ⟨_, rfl⟩
   have Ny175 := Aside0.mk hy175
   have E175 := Aside0.mk (show y175 = l0 by rw [hy175, hy172]; rfl)
   have LM := Aside0.mk (show y172.length + l0.length < 4398046511104 by rw [hy172]; simpa using LMc2.out)
   clear hy172 hy175
   go_enter Tryz.func44, Tryz.ntmps44
   go_wp2_with (first | ((with_reducible refine gd 5 ?_); refine Kd.R_lit k26 _ 26 ?hg (N := 5) ?hd (xs := ([] : List (S26))) (inner := []) (ok := fun _ => True) (okp := fun _ => True) ?hr ?hp (fun _ hk => hk) trivial (Below.refl _ _) (Nat.le_refl _) (by simp) ?_; (case hd => rfl); (case hg => rfl); (case hr => first | (go_simp; done) | (go_simp; rfl)); (case hp => exact (Reps.none _ _)); intro v173 w3 ho4 hb hg_ hnew_; clear hg_ hnew_; rw [← Ny172.out] at ho4; have HO174 := Aside0.mk (Kd.R_lower ho4 (below_size HB.out)); have n0_ := Aside0.mk (below_step HB.out hb); clear HB; have HB := n0_; clear n0_ hb ho4) | ((with_reducible refine gate_builtin (b := .append) (xs := #[.tmp 5, .tmp 6]) rfl ?_); at_builtin; refine Kd.R_append_rows k26 (w0 := w) w.heap.size rfl (.tmp 5) (.tmp 6) 22 26 (.agg #[(.int .i64 0), (.int .i64 0), (.int .i64 0), (.int .i64 0)]) 32 rfl Tryz.underlying22 info26 rfl (by decide) (by omega) v173 y172 l0 _ _ _ (fun _ => True) (fun _ => False) rfl rfl ?aO ?aR (fun _ _ h => h) (fun _ h => h.elim) ?aF ?aB ?aS ?aL ?_; (case aR => exact cb HR0); (case aB => repeat (first | exact HB.out | apply pw_below_drewN | apply below_alloc)); (case aF => exact (fun _ _ => trivial)); (case aO => (with_reducible repeat (first | apply Kd.R_alloc | apply Kd.R_drewN | apply Kd.R_drew)); exact HO174.out); (case aS => exact (below_size (by repeat (first | exact HB.out | apply pw_below_drewN | apply below_alloc)))); (case aL => have := LM.out; omega); intro v176 w5 ho hb hg hat; rw [← Ny175.out] at ho; have n0_ := Aside0.mk hb; have HO177 := Aside0.mk ho; clear HB HO174; have HB := n0_; clear n0_ ho hb hg hat))
   go_ret
   exact ⟨_, rfl, by (with_reducible repeat (first | apply Kd.R_alloc | apply Kd.R_drewN | apply Kd.R_drew)); exact E175.out ▸ HO177.out, by repeat (first | exact HB.out | apply pw_below_drewN)⟩
 rw [if_neg c2] at h
 exact absurd h (by simp)

/-! ### impl_without: function 45 -/
theorem impl_without_zero {P : Program} (w : World) (t e ty : TypeId) (z : Value) (m : Nat) (ht : P.underlying t = some (.slice e)) (hv : ∀ w, (zeroValue e).run P w = .ok z w) (hz : ∀ u ∈ (Builtin.zeroCells z.cells (m + 1)).toList, u.oneCell' = true) (b o c : Nat)
    (hc : ∀ j, j < (Builtin.zeroCells z.cells (m + 1)).toList.length → (w.cell? ⟨b, o + j, none⟩).isSome = true) (hf : ∀ j, j < (Builtin.zeroCells z.cells (m + 1)).toList.length → w.frozen? ⟨b, o + j, none⟩ = false) :
    (Builtin.clear_ #[t] ty #[.slice (some ⟨b, o, none⟩) (m + 1) c]).run P w = .ok (.tuple #[]) (w.setCells b o (Builtin.zeroCells z.cells (m + 1)).toList) := by
  have hst := run_storeCells_cells (P := P) b o (Builtin.zeroCells z.cells (m + 1)).toList 0 w (by simpa using hc) (by simpa using hf) hz
  simp only [Nat.add_zero] at hst
  simp [Builtin.clear_, run_underlying ht, hv]
  simpa using congrArg (fun r => Result.andThen r fun _ w' => Result.ok (Value.tuple #[]) w') hst
theorem impl_without_ones {α : Type} {R : α → List Value → Prop} {size : Nat} {ps : List α} {cs : List Value} (hs : 0 < size) (h : Reps R size ps cs) (h1 : ∀ p c, R p c → ∀ u ∈ c, u.oneCell' = true) : ∀ u ∈ cs, u.oneCell' = true := by
  intro u hu
  obtain ⟨q, hq, rfl⟩ := List.mem_iff_getElem.1 hu
  have hql : q / size < ps.length := by
    rw [Nat.div_lt_iff_lt_mul hs, ← h.1]
    exact hq
  have hc := h.2 (q / size) _ (List.getElem?_eq_getElem hql)
  refine h1 _ _ hc _ ?_
  rw [List.mem_iff_getElem?]
  refine ⟨q % size, ?_⟩
  rw [List.getElem?_take, if_pos (Nat.mod_lt _ hs), List.getElem?_drop, Nat.mul_comm, Nat.div_add_mod, List.getElem?_eq_getElem hq]
theorem impl_without_cut {α : Type} {R : α → List Value → Prop} {ps : List α} {cs : List Value} (h : Reps R 4 ps cs) (i : Nat) (hi : i < ps.length) : Reps R 4 (ps.eraseIdx i) (cs.take (i * 4) ++ cs.drop ((i + 1) * 4)) := by
  have hl := h.1
  refine ⟨by simp [List.length_eraseIdx, hi]; omega, fun j p hj => ?_⟩
  have hlt : j < (ps.eraseIdx i).length := (List.getElem?_eq_some_iff.1 hj).1
  rw [List.length_eraseIdx, if_pos hi] at hlt
  rw [List.getElem?_eraseIdx] at hj
  by_cases hji : j < i
  · rw [if_pos hji] at hj
    have := h.2 j p hj
    rw [List.drop_append_of_le_length (by simp; omega), List.take_append_of_le_length (by simp; omega), List.drop_take, List.take_take, show min 4 (i * 4 - j * 4) = 4 by omega]
    exact this
  · rw [if_neg hji] at hj
    have := h.2 (j + 1) p hj
    rw [List.drop_append, List.drop_of_length_le (by simp; omega), List.nil_append, List.length_take, List.drop_drop, show (i + 1) * 4 + (j * 4 - min (i * 4) cs.length) = (j + 1) * 4 by omega]
    exact this
theorem impl_without_app {ops : Array Oper} {P : Program} {o : Oper} {a : Act} {w : World} {K : Act → World → Prop} {Q : Exit → Act → World → Prop} {E : Prop}
    (hg : o.guard = none) (d x : Operand) (dT sT : TypeId) (hop : o.op = Op.call { callee := Callee.builtin Builtin.append, args := #[d, x], argTypes := #[dT, sT] })
    (v u : Value) (hd : a.eval d = v) (hx : a.eval x = u) {v' : Value} {w' : World} (hr : (Builtin.append_ #[dT, sT] o.type #[v, u]).run P w = .ok v' w') (hK : K (a.put o.dst v') w') :
    if Region.wanted o (yielded ops a.tmps) = true then Oper.wp P o a w K Q else E := by
  have hw : Region.wanted o (yielded ops a.tmps) = true := by simp [Region.wanted, hg]
  rw [if_pos hw]
  unfold Oper.wp
  simp [execOp, hop, resolve, invoke, builtin, hd, hx, hr, Result.andThen]
  exact hK
theorem impl_without_row {w : World} {g t : Nat} {cs : Array Value} (h : w.heap[g]? = some (.cells cs t (0, 0))) (cs' : Array Value) : (w.setRow g cs').heap[g]? = some (.cells cs' t (0, 0)) := by
  simp [World.setRow, Array.getElem?_modify, h]
theorem impl_without_set {t g : Nat} : ∀ (vs : List Value) (o : Nat) (W : World) (L : List Value), W.heap[g]? = some (.cells L.toArray t (0, 0)) → o + vs.length ≤ L.length → ∃ L' : List Value, (W.setCells g o vs).heap[g]? = some (.cells L'.toArray t (0, 0)) ∧ L'.length = L.length ∧ L'.take o = L.take o
  | [], o, W, L, h, _ => ⟨L, h, rfl, rfl⟩
  | v :: r, o, W, L, h, hl => by
    rw [World.setCells]
    simp only [List.length_cons] at hl
    have h1 := blk_set h o v
    rw [show L.toArray.setIfInBounds o v = (L.set o v).toArray by simp] at h1
    obtain ⟨L', h2, h3, h4⟩ := impl_without_set r (o + 1) _ (L.set o v) h1 (by simp; omega)
    refine ⟨L', h2, by simpa using h3, ?_⟩
    have := congrArg (List.take o) h4
    rw [List.take_take, List.take_take, show min o (o + 1) = o by omega, List.take_set_of_le (Nat.le_refl _)] at this
    exact this
theorem impl_without_below {b0 : Nat} {w0 : World} {B : Nat} (hB : b0 ≤ B) : ∀ (vs : List Value) (o : Nat) (W : World), Below b0 w0 W → Below b0 w0 (W.setCells B o vs)
  | [], _, _, h => h
  | v :: r, o, W, h => by
    rw [World.setCells]
    exact impl_without_below hB r (o + 1) _ (h.setCell hB v)
theorem impl_without_rowb {b0 : Nat} {w0 w : World} {g : Nat} (hg : b0 ≤ g) (h : Below b0 w0 w) (cs : Array Value) : Below b0 w0 (w.setRow g cs) :=
  ⟨h.os, h.tape, h.output, by simpa [World.setRow] using h.size, fun k hk => by
    have := h.block k hk
    rw [← this]
    simp only [World.setRow, Array.getElem?_modify]
    rw [if_neg (by omega)]⟩
set_option maxHeartbeats 8000000 in
set_option maxRecDepth 100000 in
theorem impl_without_del (g n cap i base : Nat) (xs : List S26) (w : World) (ho : Kd.R k26 26 w base (fun _ => True) (.slice (some ⟨g, 0, none⟩) n cap) xs) (hn : xs.length = n) (hi : i < n) (hlim : n < 1000000000000) :
    Calls Tryz.prog 62 #[.slice (some ⟨g, 0, none⟩) n cap, .int .i64 (i : Int), .int .i64 ((i : Int) + 1)] w fun e w' => ∃ v0, e = .returned v0 ∧ Kd.R k26 26 w' base (fun _ => True) v0 (xs.eraseIdx i) ∧ (∀ b0 w0, b0 ≤ base → Below b0 w0 w → Below b0 w0 w') := by
  obtain ⟨_, inner, hown, hreps⟩ := ho
  have hreps' : Reps (k26.M w base (fun k => True ∧ some k ≠ (Value.slice (some ⟨g, 0, none⟩) n cap).ownBlock)) 4 xs inner := hreps
  have hown' : w.ownsRow base 26 4 (.slice (some ⟨g, 0, none⟩) n cap) xs.length inner := hown
  clear hreps hown
  rcases hown'.2 with ⟨h, _⟩ | ⟨g', cap', cur, heq, hbg, hblk, hncap, hmax, hsz, htake⟩
  · cases h
  injection heq with e1 e2 e3
  injection e1 with e1
  injection e1 with e1
  subst e1 e3
  have hones := impl_without_ones (by omega) hreps' (fun p c hp u hu => k26.K_one (k26.K_of_M hp) u hu)
  have hil : inner.length = n * 4 := by have := hreps'.1; rw [hn] at this; exact this
  rw [hn] at hncap htake
  have mixed : Tryz.prog.follows Departure.mixedOrders = true := by kernel_rfl
  have LIM := Aside0.mk hlim
  have HI := Aside0.mk hi
  have HNC := Aside0.mk hncap
  have HBG := Aside0.mk hbg
  have HBLK := Aside0.mk hblk
  have HSZ := Aside0.mk hsz
  have HTK := Aside0.mk htake
  have HONES := Aside0.mk hones
  have HIL := Aside0.mk hil
  have HREPS := Aside0.mk hreps'
  have HN := Aside0.mk hn
  have HMAX := Aside0.mk hmax
  clear hblk hsz htake hones hil hreps' hown' hbg hmax hn e2
  have p1 : (0 : Int) ≤ (i : Int) := by omega
  have p2 : (i : Int) ≤ (i : Int) + 1 := by omega
  have p3 : (i : Int) + 1 ≤ (n : Int) := by omega
  have p4 : (n : Int) ≤ (cap : Int) := by omega
  have p5 : ((i : Int) + 1).toNat = i + 1 := by omega
  have p6 : (i : Int) ≤ (cap : Int) := by omega
  have p7 : (i : Int) + 1 ≤ (cap : Int) := by omega
  have p8 : ((i : Int) == (i : Int) + 1) = false := beq_eq_false_iff_ne.mpr (by omega)
  have p9 : ¬ ((i : Int) = (i : Int) + 1) := by omega
  have p10 : (0 : Int) ≤ (i : Int) + 1 := by omega
  obtain ⟨i0, hi0, hz0⟩ := Option.map_eq_some_iff.1 info26
  simp only [Prod.mk.injEq] at hz0
  obtain ⟨hz0, hz1, hz2⟩ := hz0
  obtain ⟨A, hA, hsrc⟩ : ∃ A : Addr, (if cap = i + 1 then some (⟨g, 0, none⟩ : Addr) else some ⟨g, (i + 1) * 4, none⟩) = some A ∧ ∀ n1 j u, (inner.drop ((i + 1) * 4))[j]? = some u → (w.drewN n1).cell? (A.add j) = some u := by
    by_cases hc : cap = i + 1
    · refine ⟨_, by rw [if_pos hc], fun n1 j u hu => ?_⟩
      rw [List.drop_of_length_le (by have := HIL.out; omega)] at hu
      simp at hu
    · refine ⟨_, by rw [if_neg hc], fun n1 j u hu => ?_⟩
      have hj := (List.getElem?_eq_some_iff.1 hu).1
      rw [List.length_drop] at hj
      rw [List.getElem?_drop, ← HTK.out, List.getElem?_take, if_pos (by have := HIL.out; omega)] at hu
      rw [Addr.add_lit]
      refine (blk_cell (w := w.drewN n1) HBLK.out _).trans ?_
      rw [← Array.getElem?_toList]
      exact hu
  have hrun : ∀ n1, (Builtin.append_ #[22, 22] 22 #[.slice (some ⟨g, 0, none⟩) i cap, .slice (some A) (n - (i + 1)) (cap - (i + 1))]).run Tryz.prog (w.drewN n1) = .ok (.slice (some ⟨g, 0, none⟩) (i + (n - (i + 1))) cap) ((w.drewN n1).setRow g (cur.toList.take (i * 4) ++ inner.drop ((i + 1) * 4) ++ cur.toList.drop (i * 4 + (inner.drop ((i + 1) * 4)).length)).toArray) := fun n1 => by
    have := run_append_room (P := Tryz.prog) (w.drewN n1) 22 22 26 i0 Tryz.underlying22 hi0 g i cap cur HBLK.out A (n - (i + 1)) (cap - (i + 1)) (inner.drop ((i + 1) * 4)) (by rw [hz1, List.length_drop]; have := HIL.out; omega) (hsrc n1) (fun u hu => HONES.out u (List.mem_of_mem_drop hu)) (by omega) (by rw [hz1, List.length_drop]; have := HIL.out; have := HSZ.out; omega)
    rw [hz1] at this
    exact this
  have HRUN := Aside0.mk hrun
  have HNC2 := Aside0.mk hncap
  have hz0' := hz0
  have hv : ∀ w : World, (zeroValue 26).run Tryz.prog w = .ok (.agg #[(.int .i64 0), (.int .i64 0), (.int .i64 0), (.int .i64 0)]) w := fun w => by
    simp [zeroValue, typeInfo, hi0, hz0']
  obtain ⟨L, hL⟩ : ∃ L : List Value, L = cur.toList.take (i * 4) ++ (inner.drop ((i + 1) * 4) ++ cur.toList.drop (i * 4 + (inner.length - (i + 1) * 4))) := ⟨_, rfl⟩
  have hLl : L.length = cap * 4 := by
    have := HIL.out
    have := HSZ.out
    rw [hL]
    simp only [List.length_append, List.length_take, List.length_drop, Array.length_toList]
    omega
  have hLt : L.take ((i + (n - (i + 1))) * 4) = inner.take (i * 4) ++ inner.drop ((i + 1) * 4) := by
    have h1 := HIL.out
    have h2 := HSZ.out
    have h3 := HTK.out
    have h4 : cur.toList.take (i * 4) = inner.take (i * 4) := by rw [← h3, List.take_take, show min (i * 4) (n * 4) = i * 4 by omega]
    have h5 : (inner.take (i * 4) ++ inner.drop ((i + 1) * 4)).length = (i + (n - (i + 1))) * 4 := by simp only [List.length_append, List.length_take, List.length_drop]; omega
    rw [hL, h4, ← List.append_assoc, ← h5, List.take_left]
  have hblk1 : ∀ n1, ((w.drewN n1).setRow g L.toArray).heap[g]? = some (.cells L.toArray 26 (0, 0)) := fun n1 => impl_without_row (w := w.drewN n1) HBLK.out _
  have hzl : (Builtin.zeroCells (Value.agg #[(.int .i64 0), (.int .i64 0), (.int .i64 0), (.int .i64 0)]).cells 1).toList = [.int .i64 0, .int .i64 0, .int .i64 0, .int .i64 0] := by first | kernel_rfl | decide | (simp [Builtin.zeroCells, Value.cells]; done)
  have hcl : ∀ n1, (Builtin.clear_ #[22] 0 #[.slice (some ⟨g, (i + (n - (i + 1))) * 4, none⟩) (n - (i + (n - (i + 1)))) (cap - (i + (n - (i + 1))))]).run Tryz.prog ((w.drewN n1).setRow g L.toArray) = .ok (.tuple #[]) (((w.drewN n1).setRow g L.toArray).setCells g ((i + (n - (i + 1))) * 4) [.int .i64 0, .int .i64 0, .int .i64 0, .int .i64 0]) := fun n1 => by
    rw [show n - (i + (n - (i + 1))) = 0 + 1 by omega]
    have := impl_without_zero (P := Tryz.prog) ((w.drewN n1).setRow g L.toArray) 22 26 0 _ 0 Tryz.underlying22 hv (by intro u hu; rw [hzl] at hu; simp at hu; rw [hu]; rfl) g ((i + (n - (i + 1))) * 4) (cap - (i + (n - (i + 1)))) (fun j hj => by
      rw [hzl] at hj
      simp at hj
      rw [blk_cell (hblk1 n1)]
      simp
      omega) (fun j hj => blk_frozen (hblk1 n1) _)
    rw [hzl] at this
    exact this
  have HL := Aside0.mk hL
  have HLL := Aside0.mk hLl
  have HLT := Aside0.mk hLt
  have HCL := Aside0.mk hcl
  have HB1 := Aside0.mk hblk1
  clear hi hncap hlim hrun hsrc hz0 hz2 hz0' hL hLl hLt hcl hblk1 hv hzl
  go_enter Tryz.func62, Tryz.ntmps62
  go_wp2
  go_region_law_o (refine impl_without_app rfl _ _ 22 22 rfl _ _ (by simp [Act.eval, Act.put]) (by simp [Act.eval, Act.put]) (HRUN.out _) ?_)
  go_wp2_with (rw [← HL.out, HCL.out])
  go_ret
  obtain ⟨L', g1, g2, g3⟩ := impl_without_set (t := 26) (g := g) [.int .i64 0, .int .i64 0, .int .i64 0, .int .i64 0] ((i + (n - (i + 1))) * 4) _ L (HB1.out 1) (by have := HLL.out; have := HI.out; have := HNC.out; simp; omega)
  have hcut := impl_without_cut HREPS.out i (by rw [HN.out]; exact HI.out)
  have hlen : (xs.eraseIdx i).length = i + (n - (i + 1)) := by have := HI.out; have := HN.out; rw [List.length_eraseIdx, if_pos (by omega)]; omega
  refine ⟨_, rfl, ⟨fun _ _ => trivial, inner.take (i * 4) ++ inner.drop ((i + 1) * 4), ?_, ?_⟩, fun b0 w0 hb h0 => impl_without_below (Nat.le_trans hb HBG.out) _ _ _ (impl_without_rowb (Nat.le_trans hb HBG.out) (pw_below_drewN h0 1) _)⟩
  · refine ⟨hcut.1, .inr ⟨g, cap, L'.toArray, by rw [hlen]; rfl, HBG.out, g1, by rw [hlen]; have := HI.out; have := HNC.out; omega, HMAX.out, by show L'.length = _; rw [g2]; exact HLL.out, ?_⟩⟩
    show L'.take ((xs.eraseIdx i).length * 4) = _
    rw [hlen, g3]
    exact HLT.out
  · exact hcut.imp_ (fun p c hp => by
      obtain rfl := k26_openM hp
      exact k26_mkM _ _ _ p)
theorem impl_without_nonnil {w : World} {base : Nat} {ok : Nat → Prop} {v : Value} {l : List S26} (h : Kd.R k26 26 w base ok v l) (hl : 0 < l.length) : ∃ g c, v = .slice (some ⟨g, 0, none⟩) l.length c := by
  obtain ⟨_, inner, ho, _⟩ := h
  obtain ⟨g, cap, rfl, _, _⟩ := ho.form hl
  exact ⟨g, cap, rfl⟩
def impl_without.f (l0 : List S26) (a1 : Int) : Option (List S26) := (impl_Clue.f l0).bind fun t => if 0 ≤ a1 ∧ a1 < (t.length : Int) ∧ t.length < 1000000000000 then some (t.eraseIdx a1.toNat) else none
set_option maxHeartbeats 8000000 in
set_option maxRecDepth 100000 in
theorem impl_without.calls (A0 : Option Addr) (c0 : Nat) (l0 : List S26) (a1 : Int) (r : List S26) (w : World) (hr0 : Kd.C k26 w A0 l0.length l0) (hc0 : l0.length ≤ c0) (h : impl_without.f l0 a1 = some r) :
  Calls Tryz.prog 45 #[.slice A0 l0.length c0, .int .i64 a1] w fun e w' => ∃ v0_ : Value, e = .returned (v0_) ∧ Kd.R k26 26 w' w.heap.size (fun _ => True) v0_ r ∧ Below w.heap.size w w' := by
 have HR0 := Aside0.mk hr0
 have HC0 := Aside0.mk hc0
 clear hr0 hc0
 have HB := Aside0.mk (Below.refl w.heap.size w)
 replace h := Option.bind_eq_some_iff.mp h
 obtain ⟨t, b1, h⟩ := h
 have B1 := Aside0.mk b1
 clear b1
 by_cases hc : 0 ≤ a1 ∧ a1 < (t.length : Int) ∧ t.length < 1000000000000
 ·rw [if_pos hc] at h
  obtain rfl := Option.some.inj h
  clear h
  obtain ⟨i, rfl⟩ : ∃ i : Nat, a1 = (i : Int) := ⟨a1.toNat, by omega⟩
  have HI := Aside0.mk (show i < t.length by omega)
  have HLM := Aside0.mk hc.2.2
  have ew : IntKind.i64.wrap ((i : Int) + 1) = (i : Int) + 1 := by have := hc.2.2; have e64 : IntKind.i64.bits = 64 := rfl; simp [IntKind.wrap, e64, IntKind.signed]; omega
  have ew2 : wrap64 ((i : Int) + 1) = (i : Int) + 1 := by have := hc.2.2; unfold wrap64; omega
  clear hc
  go_enter Tryz.func45, Tryz.ntmps45
  go_wp2_with (first | (go_at_call 44; refine (impl_Clue.calls A0 c0 l0 t _ HR0.out HC0.out B1.out).mono ?_; rintro e w' ⟨v1, rfl, ho1, hb⟩; obtain ⟨g1, c1, rfl⟩ := impl_without_nonnil ho1 (by have := HI.out; omega); have HO1 := Aside0.mk ho1; have HB1 := Aside0.mk (below_step HB.out hb); clear ho1 HB hb; have HB := HB1; clear HB1) | (go_at_call 62; refine (impl_without_del g1 t.length c1 i w.heap.size t _ HO1.out rfl HI.out HLM.out).mono ?_; rintro e w' ⟨v2, rfl, ho2, hb2⟩; have HO2 := Aside0.mk ho2; have HB1 := Aside0.mk (hb2 _ _ (Nat.le_refl _) HB.out); clear ho2 HB hb2; have HB := HB1; clear HB1))
  go_ret
  exact ⟨_, rfl, HO2.out, HB.out⟩
 rw [if_neg hc] at h
 exact absurd h (by simp)

end Go.Proofs.YtonhhfhlhlifcaaGreatDoor.PFnRowsHiddenOfAll
