-- Laid by xprint, a program of this session that runs over the kit's print.
import Derived.Test.YtmhbcfdodcnjmaaGreatDoorPFnSignalsReachx0
import Derived.Test.YtmhbcfdodcnjmaaGreatDoorPFnSignalsReachx2
import Derived.Test.YtmhbcfdodcnjmaaGreatDoorPFnSignalsReachx3
namespace Go.Proofs.YtmhbcfdodcnjmaaGreatDoor.PFnSignalsReach
open Go.RowKit Go.Proofs.YtmhbcfdodcnjmaaGreatDoorW.PrintWords Go.Proofs.YtmhbcfdodcnjmaaGreatDoorW.PrintLast Go.Proofs.YtmhbcfdodcnjmaaGreatDoorW.PrintMore Go.Proofs.YtmhbcfdodcnjmaaGreatDoor.Sq
attribute [local go_sem] max2_int min2_int max_two min_two max_three min_three max_four min_four   -- for this text's walks alone
set_option linter.unusedVariables false
set_option linter.unusedSimpArgs false

/-! ### impl_heard: function 42 -/
mutual
def impl_heard.l0 : Nat → Int → List Int → List (S36) → Int → Int → Option (List Int)
  | 0, _, _, _, _, _ => none
  | k + 1, x0, x5, x14, x15, x16 => if x16 < x15 then (if 0 ≤ x16 then (if x16 < (x14.length : Int) then ((impl_around.f x0).bind fun t219 => (impl_heard.l1 k x0 x5 x14 x15 x16 t219 0 ((rd_T36 x14 x16).f0) ((rd_T36 x14 x16).f1) ((rd_T36 x14 x16).f2))) else (none)) else (none)) else (some x5)
def impl_heard.l1 : Nat → Int → List Int → List (S36) → Int → Int → Int → Int → Int → Bool → Int → Option (List Int)
  | 0, _, _, _, _, _, _, _, _, _, _ => none
  | k + 1, x0, x5, x14, x15, x16, x21, x22, x219000, x219001, x219002 => if x22 < x21 then ((impl_Signal_place.f x219000 x219001 x219002 x0 (wrap64 (x22 * x219002))).bind fun t220 => (if 0 ≤ t220 then (if t220 < (x5.length : Int) then (if (rd x5 t220) < 0 then (impl_heard.l1 k x0 (x5.set (t220 : Int).toNat (wrap64 (x22 * x219002))) x14 x15 x16 x21 (wrap64 (x22 + 1)) x219000 x219001 x219002) else (if (wrap64 (x22 * x219002)) < (rd x5 t220) then (impl_heard.l1 k x0 (x5.set (t220 : Int).toNat (wrap64 (x22 * x219002))) x14 x15 x16 x21 (wrap64 (x22 + 1)) x219000 x219001 x219002) else (impl_heard.l1 k x0 x5 x14 x15 x16 x21 (wrap64 (x22 + 1)) x219000 x219001 x219002))) else (none)) else (none))) else (impl_heard.l0 k x0 x5 x14 x15 (wrap64 (x16 + 1)))
end
def impl_heard.f (k : Nat) (a0 : Int) (l1 : List (S36)) : Option (List Int) := (slices_Repeat_int_int.f (([(-1)] : List Int)) a0).bind fun t214 => (impl_heard.l0 k a0 t214 l1 (l1.length : Int) 0)
theorem impl_heard.mono_l : ∀ k, (∀ y0 y1 y2 y3 y4, LeO (impl_heard.l0 k y0 y1 y2 y3 y4) (impl_heard.l0 (k + 1) y0 y1 y2 y3 y4)) ∧ (∀ y0 y1 y2 y3 y4 y5 y6 y7 y8 y9, LeO (impl_heard.l1 k y0 y1 y2 y3 y4 y5 y6 y7 y8 y9) (impl_heard.l1 (k + 1) y0 y1 y2 y3 y4 y5 y6 y7 y8 y9))
  | 0 => ⟨fun _ _ _ _ _ r h => by simp [impl_heard.l0] at h, fun _ _ _ _ _ _ _ _ _ _ r h => by simp [impl_heard.l1] at h⟩
  | k + 1 => by
    obtain ⟨ih0, ih1⟩ := impl_heard.mono_l k
    refine ⟨?q0, ?q1⟩
    case' q0 => (intros; unfold impl_heard.l0)
    case' q1 => (intros; unfold impl_heard.l1)
    all_goals repeat' first
     | (with_reducible exact ih0 _ _ _ _ _)
     | (with_reducible exact ih1 _ _ _ _ _ _ _ _ _ _)
     | (with_reducible exact LeO.refl _)
     | (with_reducible exact LeO.none _)
     | (with_reducible refine LeO.ite ?_ ?_)
     | (with_reducible refine LeO.bind ?_ (fun _ => ?_))
     | exact ih0 _ _ _ _ _
     | exact ih1 _ _ _ _ _ _ _ _ _ _
     | exact LeO.none _
     | refine LeO.ite ?_ ?_
     | refine LeO.bind ?_ (fun _ => ?_)
theorem impl_heard.mono : ∀ a0 a1 k, LeO (impl_heard.f k a0 a1) (impl_heard.f (k + 1) a0 a1) := by
  intro a0 a1 k
  obtain ⟨ih0, ih1⟩ := impl_heard.mono_l k
  unfold impl_heard.f
  repeat' first
      | (with_reducible exact ih0 _ _ _ _ _)
      | (with_reducible exact ih1 _ _ _ _ _ _ _ _ _ _)
      | (with_reducible exact LeO.refl _)
      | (with_reducible exact LeO.none _)
      | (with_reducible refine LeO.ite ?_ ?_)
      | (with_reducible refine LeO.bind ?_ (fun _ => ?_))
      | exact ih0 _ _ _ _ _
      | exact ih1 _ _ _ _ _ _ _ _ _ _
      | exact LeO.none _
      | refine LeO.ite ?_ ?_
      | refine LeO.bind ?_ (fun _ => ?_)
set_option maxHeartbeats 8000000 in
set_option maxRecDepth 100000 in
theorem impl_heard.calls (k : Nat) (a0 : Int) (A1 : Option Addr) (c1 : Nat) (l1 : List (S36)) (r : List Int) (w : World) (hr1 : Kd.C k36 w A1 l1.length l1) (hc1 : l1.length ≤ c1) (h : impl_heard.f k a0 l1 = some r) :
  Calls Tryz.prog 42 #[.int .i64 a0, .slice A1 l1.length c1] w fun e w' => ∃ v0_ : Value, e = .returned (v0_) ∧ Kd.R (Kd.int .i64) 3 w' w.heap.size (fun _ => True) v0_ r ∧ Below w.heap.size w w' := by
 have hu36 := Tryz.underlying36
 have HR1 := Aside0.mk hr1
 have HC1 := Aside0.mk hc1
 clear hr1 hc1
 have HB := Aside0.mk (Below.refl w.heap.size w)
 unfold impl_heard.f at h
 have H := h
 clear h
 obtain ⟨y211, hy211⟩ : ∃ y_ : List Int, y_ = (([(-1)] : List Int)) := ⟨_, rfl⟩
 replace H : ((slices_Repeat_int_int.f y211 a0).bind fun t214 => (impl_heard.l0 k a0 t214 l1 (l1.length : Int) 0)) = some r := by first | (rw [hy211]; with_reducible exact H) | (have H2_ := (Option.bind_some _ _).symm.trans H; rw [hy211]; with_reducible exact H2_) | (have H2_ := (Option.bind_some _ _).symm.trans H; with_reducible exact H2_) | with_reducible exact H | (rw [hy211]; exact H) | exact H
 have Ny211 := Aside0.mk hy211
 clear hy211
 replace H := Option.bind_eq_some_iff.mp H
 obtain ⟨t214, A30, H⟩ := H
 (try dsimp only at H)
 have A3 := Aside0.mk A30
 clear A30
 have H' := Aside0.mk H
 clear H
 go_enter Tryz.func42, Tryz.ntmps42
 go_wp2_with (first | ((with_reducible refine gate_dst (N := 11) rfl ?_); refine Kd.R_lit (Kd.int .i64) _ 3 ?hg (N := 11) ?hd (xs := ([(-1)] : List Int)) (inner := [.int .i64 (-1)]) (ok := fun _ => True) (okp := fun _ => True) ?hr ?hp (fun _ hk => hk) trivial (Below.refl _ _) (Nat.le_refl _) (by simp) ?_; (case hd => rfl); (case hg => rfl); (case hr => first | (go_simp; done) | (go_simp; rfl)); (case hp => exact (Reps.one (show Kd.M (Kd.int .i64) _ _ _ (-1) [.int .i64 (-1)] from rfl) (Reps.none _ _))); intro v212 w4 ho5 hb hg_ hnew_; clear hg_ hnew_; (first | rw [← Ny211.out] at ho5 | (simp only [Int.reduceToNat] at ho5; rw [← Ny211.out] at ho5)); have HO213 := Aside0.mk (Kd.R_lower ho5 (below_size bw)); replace HB := bs hb; clear hb ho5; obtain ⟨Ao6, co6, eo6⟩ := Kd.R_slice HO213.out; subst eo6) | ((with_reducible refine gate_callee (f := 83) rfl ?_); refine gl (some 13) Tryz.func83 #[.slice Ao6 y211.length co6, .int .i64 a0] ?_; (with_reducible refine (slices_Repeat_int_int.calls _ _ y211 a0 t214 _ ?side1 ?side2 A3.out).mono ?_); (case side1 => exact rr HO213); (case side2 => exact rn HO213); rintro e w7 ⟨v215, rfl, ho0, hb⟩; refine ⟨_, rfl, ?_⟩; have HO216 := Aside0.mk (Kd.R_lower (Kd.R_new' ho0 (Kd.R_lt (pr HO213))) (below_size bw)); replace HO213 := re HO213 ho0 hb; replace HB := bs hb; (try clear hb); (try clear ho0)))
 go_loopg [16] k (fun kq v16 w' => ∃ (x5_1 : List Int) (x16_1 : Int), v16 = .int .i64 x16_1 ∧ Aside0 (impl_heard.l0 kq a0 x5_1 l1 (l1.length : Int) x16_1 = some r) ∧ Aside0 (kq ≤ k) ∧ Aside0 (Kd.R (Kd.int .i64) 3 w' w.heap.size (fun _ => True) v215 x5_1) ∧ Aside0 (Below w.heap.size w w'))
 case atStart => exact ⟨(t214), (0), (rs), H', ⟨Nat.le_refl _⟩, ⟨by (with_reducible repeat (first | apply Kd.R_alloc | apply Kd.R_drewN | apply Kd.R_drew)); exact Kd.R_mono HO216.out (fun _ hk => trivial)⟩, ⟨bw⟩⟩
 case round =>
  clear H'
  try clear c1
  try clear p2
  try clear c4
  obtain ⟨x5_1, x16_1, rfl, HA, HK1, HO_5, HB⟩ := hrel
  cases gk with
  | zero => exact absurd HA.out (by simp [impl_heard.l0])
  | succ k1 =>
   have H := HA.out
   clear HA
   simp only [impl_heard.l0] at H
   by_cases c8 : x16_1 < (l1.length : Int)
   ·rw [if_pos c8] at H
    have c8b0 : decide (x16_1 < (l1.length : Int)) = true := decide_eq_true c8
    clear c8
    by_cases c9 : 0 ≤ x16_1
    ·rw [if_pos c9] at H
     have c9b0 : decide (0 ≤ x16_1) = true := decide_eq_true c9
     clear c9
     by_cases c10 : x16_1 < (l1.length : Int)
     ·rw [if_pos c10] at H
      have c10b0 : decide (x16_1 < (l1.length : Int)) = true := decide_eq_true c10
      clear c10
      replace H := Option.bind_eq_some_iff.mp H
      obtain ⟨t219, A110, H⟩ := H
      (try dsimp only at H)
      have A11 := Aside0.mk A110
      clear A110
      have H' := Aside0.mk H
      clear H
      have p217 : 0 ≤ (x16_1 : Int) := of_decide_eq_true asm
      have q217 : x16_1 < (l1.length : Int) := of_decide_eq_true asm
      obtain ⟨ad217, e217, hx217_0, hx217_1, hx217_2⟩ := at_T36 HR1.out x16_1 p217 q217
      cases e217
      replace hx217_0 := (HB.out.cell (World.block_lt_of_cell? w _ hx217_0)).trans hx217_0
      replace hx217_1 := (HB.out.cell (World.block_lt_of_cell? w _ hx217_1)).trans hx217_1
      replace hx217_2 := (HB.out.cell (World.block_lt_of_cell? w _ hx217_2)).trans hx217_2
      replace p217 := eq_true p217
      replace q217 := eq_true q217
      go_wp2_with (first | ((with_reducible refine gate_dst (N := 7) rfl ?_); refine bx 7 36 #[.int .i64 0, .bool false, .int .i64 0] ?_; intro gb218 hg w12 hbox hb; replace HO_5 := rl HO_5 hb; have BK218 := hbox; have GW218 := gs hg; have GE218 := gs hg; replace HB := bs hb; clear hb hbox hg; have hcz13_0 := bc BK218 0 (.int .i64 0); have hcz13_1 := bc BK218 1 (.bool false); have hcz13_2 := bc BK218 2 (.int .i64 0); have hfz13_0 := blk_frozen BK218.out 0; have hfz13_1 := blk_frozen BK218.out 1; have hfz13_2 := blk_frozen BK218.out 2) | ((with_reducible refine gate_callee (f := 84) rfl ?_); refine gl (some 21) Tryz.func84 #[.int .i64 a0] ?_; (with_reducible refine (impl_around.calls a0 t219 _ A11.out).mono ?_); rintro e w14 ⟨rfl, hb⟩; refine ⟨_, rfl, ?_⟩; replace HO_5 := Aside0.mk (Kd.R_below (qf3 HO_5) hb); replace BK218 := Aside0.mk (blk_below (g := gb218) (o := .cells #[.int .i64 ((rd_T36 l1 x16_1).f0), .bool ((rd_T36 l1 x16_1).f1), .int .i64 ((rd_T36 l1 x16_1).f2)] 36 (0, 0)) (by (with_reducible repeat (first | refine blk_drewN ?_ _ | refine blk_drew ?_ | refine blk_alloc ?_ _)); refine blk_put (cs := #[.int .i64 ((rd_T36 l1 x16_1).f0), .bool ((rd_T36 l1 x16_1).f1), .int .i64 0]) ?_ 2 _ rfl; (with_reducible repeat (first | refine blk_drewN ?_ _ | refine blk_drew ?_ | refine blk_alloc ?_ _)); refine blk_put (cs := #[.int .i64 ((rd_T36 l1 x16_1).f0), .bool false, .int .i64 0]) ?_ 1 _ rfl; (with_reducible repeat (first | refine blk_drewN ?_ _ | refine blk_drew ?_ | refine blk_alloc ?_ _)); refine blk_put (cs := #[.int .i64 0, .bool false, .int .i64 0]) ?_ 0 _ rfl; (with_reducible repeat (first | refine blk_drewN ?_ _ | refine blk_drew ?_ | refine blk_alloc ?_ _)); exact BK218.out) hb); replace HB := bs hb; (try clear hb)))
      go_loopg [22] k1 (fun kq v22 w' => ∃ (x5_2 : List Int) (x22_2 : Int), v22 = .int .i64 x22_2 ∧ Aside0 (impl_heard.l1 kq a0 x5_2 l1 (l1.length : Int) x16_1 t219 x22_2 ((rd_T36 l1 x16_1).f0) ((rd_T36 l1 x16_1).f1) ((rd_T36 l1 x16_1).f2) = some r) ∧ Aside0 (kq ≤ k1) ∧ Aside0 (Kd.R (Kd.int .i64) 3 w' w.heap.size (fun _ => True) v215 x5_2) ∧ Aside0 (w'.heap[gb218]? = some (.cells #[.int .i64 ((rd_T36 l1 x16_1).f0), .bool ((rd_T36 l1 x16_1).f1), .int .i64 ((rd_T36 l1 x16_1).f2)] 36 (0, 0))) ∧ Aside0 (Below w.heap.size w w'))
      case atStart => exact ⟨(x5_1), (0), (rs), H', ⟨Nat.le_refl _⟩, ⟨pr HO_5⟩, ⟨pk BK218⟩, ⟨bw⟩⟩
      case round =>
       clear H'
       try clear c1
       try clear p2
       try clear q2
       try clear hx2
       try clear c4
       try clear c8
       try clear c8b0
       try clear c9
       try clear c9b0
       try clear c10
       try clear c10b0
       try clear hcz13_0
       try clear hcz13_1
       try clear hcz13_2
       try clear hfz13_0
       try clear hfz13_1
       try clear hfz13_2
       try clear hx217_0
       try clear hx217_1
       try clear hx217_2
       try clear p2
       try clear p217
       try clear q217
       obtain ⟨x5_2, x22_2, rfl, HA, HK2, HO_5, BK218, HB⟩ := hrel
       cases gk with
       | zero => exact absurd HA.out (by simp [impl_heard.l1])
       | succ k2 =>
        have H := HA.out
        clear HA
        simp only [impl_heard.l1] at H
        by_cases c15 : x22_2 < t219
        ·rw [if_pos c15] at H
         have c15b0 : decide (x22_2 < t219) = true := decide_eq_true c15
         clear c15
         replace H := Option.bind_eq_some_iff.mp H
         obtain ⟨t220, A160, H⟩ := H
         (try dsimp only at H)
         have A16 := Aside0.mk A160
         clear A160
         by_cases c17 : 0 ≤ t220
         ·rw [if_pos c17] at H
          have c17b0 : decide (0 ≤ t220) = true := decide_eq_true c17
          clear c17
          by_cases c18 : t220 < (x5_2.length : Int)
          ·rw [if_pos c18] at H
           have c18b0 : decide (t220 < (x5_2.length : Int)) = true := decide_eq_true c18
           clear c18
           by_cases c19 : (rd x5_2 t220) < 0
           ·rw [if_pos c19] at H
            have c19b0 : decide ((rd x5_2 t220) < 0) = true := decide_eq_true c19
            clear c19
            obtain ⟨y222, hy222⟩ : ∃ y_ : List Int, y_ = (x5_2.set (t220 : Int).toNat (wrap64 (x22_2 * ((rd_T36 l1 x16_1).f2)))) := ⟨_, rfl⟩
            replace H : (impl_heard.l1 k2 a0 y222 l1 (l1.length : Int) x16_1 t219 (wrap64 (x22_2 + 1)) ((rd_T36 l1 x16_1).f0) ((rd_T36 l1 x16_1).f1) ((rd_T36 l1 x16_1).f2)) = some r := by first | (rw [hy222]; with_reducible exact H) | (have H2_ := (Option.bind_some _ _).symm.trans H; rw [hy222]; with_reducible exact H2_) | (have H2_ := (Option.bind_some _ _).symm.trans H; with_reducible exact H2_) | with_reducible exact H | (rw [hy222]; exact H) | exact H
            have Ny222 := Aside0.mk hy222
            clear hy222
            have H' := Aside0.mk H
            clear H
            have hcz21_0 : wr.cell? ⟨gb218, 0, none⟩ = some (.int .i64 ((rd_T36 l1 x16_1).f0)) := ec BK218
            have hcz21_1 : wr.cell? ⟨gb218, 1, none⟩ = some (.bool ((rd_T36 l1 x16_1).f1)) := ec BK218
            have hcz21_2 : wr.cell? ⟨gb218, 2, none⟩ = some (.int .i64 ((rd_T36 l1 x16_1).f2)) := ec BK218
            have hfz21_0 := blk_frozen BK218.out 0
            have hfz21_1 := blk_frozen BK218.out 1
            have hfz21_2 := blk_frozen BK218.out 2
            go_wp2_with (first | ((with_reducible refine gate_callee (f := 67) rfl ?_); refine gl (some 32) Tryz.func67 #[.agg #[.int .i64 ((rd_T36 l1 x16_1).f0), .bool ((rd_T36 l1 x16_1).f1), .int .i64 ((rd_T36 l1 x16_1).f2)], .int .i64 a0, .int .i64 (wrap64 (x22_2 * ((rd_T36 l1 x16_1).f2)))] ?_; (with_reducible refine (impl_Signal_place.calls ((rd_T36 l1 x16_1).f0) ((rd_T36 l1 x16_1).f1) ((rd_T36 l1 x16_1).f2) a0 (wrap64 (x22_2 * ((rd_T36 l1 x16_1).f2))) t220 _ A16.out).mono ?_); rintro e w22 ⟨rfl, hb⟩; refine ⟨_, rfl, ?_⟩; replace HO_5 := rl HO_5 hb; replace BK218 := nk BK218 hb; replace HB := bs hb; (try clear hb); obtain ⟨Ao23, co23, eo23⟩ := Kd.R_slice HO_5.out; subst eo23; have p221 : 0 ≤ (t220 : Int) := of_decide_eq_true asm; have q221 : t220 < (x5_2.length : Int) := of_decide_eq_true asm; obtain ⟨ad221, e221, hx221_0⟩ := Kd.at_int (Kd.R_reads' HO_5.out).2.2 t220 p221 q221; cases e221; replace p221 := eq_true p221; replace q221 := eq_true q221; have p20 : 0 ≤ (t220 : Int) := of_decide_eq_true asm; have q20 : (t220 : Int) < ((x5_2.length : Int) : Int) := of_decide_eq_true asm; obtain ⟨go20, co20, eo20, gb20, gl20, cl20, HG20⟩ := Kd.R_form HO_5.out (by omega); (first | cases eo20 | (injection eo20 with ea_ en_ ec_; (first | subst ea_ | (injection ea_ with ea_; subst ea_)); subst ec_; clear en_)); have GB20 := Aside0.mk gb20; have GG20 := Aside0.mk HG20; clear gb20 gl20 HG20; (first | simp only [add_plain] at hx221_0 | skip); obtain ⟨hx20_0, hf20_0⟩ := Kd.R_celln 0 HO_5.out (t220 : Int) p20 q20; replace p20 := eq_true p20; replace q20 := eq_true q20; obtain ⟨hy24_, hz24_⟩ := Kd.R_celln 0 HO_5.out (t220 : Int) (of_decide_eq_true asm) (of_decide_eq_true asm); have HP24 := Kd.R_putg HO_5.out (t220 : Int) (wrap64 (x22_2 * ((rd_T36 l1 x16_1).f2)))) | ((with_reducible refine gate_store (t := 3) (p := 49) rfl ?_); refine store_event (t := 3) (p := 49) (v := ?vo_w25) (w1 := (w22.setCell ⟨go20, (t220 : Int).toNat, none⟩ (.int .i64 (wrap64 (x22_2 * ((rd_T36 l1 x16_1).f2)))))) ?hg ?ho ?hn ?hr ?_; (case ho => rfl); (case hg => rfl); (case hn => rfl); (case hr => first | (go_simp; done) | (go_simp; rfl)); intro w25 hw; have hg : w22.grownBy w25 (some go20) := (by rw [hw]; exact HP24.2); have hp_ : Kd.R (Kd.int .i64) 3 w25 w.heap.size (fun _ => True) (.slice (some ⟨go20, 0, none⟩) x5_2.length co23) y222 := (by rw [hw, Ny222.out]; exact HP24.1); clear HP24; replace BK218 := Aside0.mk (blk_grown (pk BK218) hg (Kd.R_ne HO_5.out BK218.out (by decide))); replace HO_5 := Aside0.mk (hp_); replace HB := Aside0.mk ((by rw [hw]; exact below_set (HB.out) GB20.out : Below w.heap.size w w25)); clear hg hw hp_))
            go_roundg k2
            case measure => have := HK1.out; have := HK2.out; omega
            case rel => exact ⟨(y222), (wrap64 (x22_2 + 1)), (rs), H', ⟨by have := HK1.out; have := HK2.out; omega⟩, ⟨pr HO_5⟩, ⟨pk BK218⟩, ⟨bw⟩⟩
           ·rw [if_neg c19] at H
            have c19b0 : decide ((rd x5_2 t220) < 0) = false := decide_eq_false c19
            clear c19
            by_cases c26 : (wrap64 (x22_2 * ((rd_T36 l1 x16_1).f2))) < (rd x5_2 t220)
            ·rw [if_pos c26] at H
             have c26b0 : decide ((wrap64 (x22_2 * ((rd_T36 l1 x16_1).f2))) < (rd x5_2 t220)) = true := decide_eq_true c26
             clear c26
             obtain ⟨y224, hy224⟩ : ∃ y_ : List Int, y_ = (x5_2.set (t220 : Int).toNat (wrap64 (x22_2 * ((rd_T36 l1 x16_1).f2)))) := ⟨_, rfl⟩
             replace H : (impl_heard.l1 k2 a0 y224 l1 (l1.length : Int) x16_1 t219 (wrap64 (x22_2 + 1)) ((rd_T36 l1 x16_1).f0) ((rd_T36 l1 x16_1).f1) ((rd_T36 l1 x16_1).f2)) = some r := by first | (rw [hy224]; with_reducible exact H) | (have H2_ := (Option.bind_some _ _).symm.trans H; rw [hy224]; with_reducible exact H2_) | (have H2_ := (Option.bind_some _ _).symm.trans H; with_reducible exact H2_) | with_reducible exact H | (rw [hy224]; exact H) | exact H
             have Ny224 := Aside0.mk hy224
             clear hy224
             have H' := Aside0.mk H
             clear H
             have hcz28_0 : wr.cell? ⟨gb218, 0, none⟩ = some (.int .i64 ((rd_T36 l1 x16_1).f0)) := ec BK218
             have hcz28_1 : wr.cell? ⟨gb218, 1, none⟩ = some (.bool ((rd_T36 l1 x16_1).f1)) := ec BK218
             have hcz28_2 : wr.cell? ⟨gb218, 2, none⟩ = some (.int .i64 ((rd_T36 l1 x16_1).f2)) := ec BK218
             have hfz28_0 := blk_frozen BK218.out 0
             have hfz28_1 := blk_frozen BK218.out 1
             have hfz28_2 := blk_frozen BK218.out 2
             go_wp2_with (first | ((with_reducible refine gate_callee (f := 67) rfl ?_); refine gl (some 32) Tryz.func67 #[.agg #[.int .i64 ((rd_T36 l1 x16_1).f0), .bool ((rd_T36 l1 x16_1).f1), .int .i64 ((rd_T36 l1 x16_1).f2)], .int .i64 a0, .int .i64 (wrap64 (x22_2 * ((rd_T36 l1 x16_1).f2)))] ?_; (with_reducible refine (impl_Signal_place.calls ((rd_T36 l1 x16_1).f0) ((rd_T36 l1 x16_1).f1) ((rd_T36 l1 x16_1).f2) a0 (wrap64 (x22_2 * ((rd_T36 l1 x16_1).f2))) t220 _ A16.out).mono ?_); rintro e w29 ⟨rfl, hb⟩; refine ⟨_, rfl, ?_⟩; replace HO_5 := rl HO_5 hb; replace BK218 := nk BK218 hb; replace HB := bs hb; (try clear hb); obtain ⟨Ao30, co30, eo30⟩ := Kd.R_slice HO_5.out; subst eo30; have p221 : 0 ≤ (t220 : Int) := of_decide_eq_true asm; have q221 : t220 < (x5_2.length : Int) := of_decide_eq_true asm; obtain ⟨ad221, e221, hx221_0⟩ := Kd.at_int (Kd.R_reads' HO_5.out).2.2 t220 p221 q221; cases e221; replace p221 := eq_true p221; replace q221 := eq_true q221; have p223 : 0 ≤ (t220 : Int) := of_decide_eq_true asm; have q223 : t220 < (x5_2.length : Int) := of_decide_eq_true asm; obtain ⟨ad223, e223, hx223_0⟩ := Kd.at_int (Kd.R_reads' HO_5.out).2.2 t220 p223 q223; obtain rfl : ad221 = ad223 := (by injection e223); replace p223 := eq_true p223; replace q223 := eq_true q223; have p27 : 0 ≤ (t220 : Int) := of_decide_eq_true asm; have q27 : (t220 : Int) < ((x5_2.length : Int) : Int) := of_decide_eq_true asm; obtain ⟨go27, co27, eo27, gb27, gl27, cl27, HG27⟩ := Kd.R_form HO_5.out (by omega); (first | cases eo27 | (injection eo27 with ea_ en_ ec_; (first | subst ea_ | (injection ea_ with ea_; subst ea_)); subst ec_; clear en_)); have GB27 := Aside0.mk gb27; have GG27 := Aside0.mk HG27; clear gb27 gl27 HG27; (first | simp only [add_plain] at hx221_0 | skip); (first | simp only [add_plain] at hx223_0 | skip); obtain ⟨hx27_0, hf27_0⟩ := Kd.R_celln 0 HO_5.out (t220 : Int) p27 q27; replace p27 := eq_true p27; replace q27 := eq_true q27; obtain ⟨hy31_, hz31_⟩ := Kd.R_celln 0 HO_5.out (t220 : Int) (of_decide_eq_true asm) (of_decide_eq_true asm); have HP31 := Kd.R_putg HO_5.out (t220 : Int) (wrap64 (x22_2 * ((rd_T36 l1 x16_1).f2)))) | ((with_reducible refine gate_store (t := 3) (p := 49) rfl ?_); refine store_event (t := 3) (p := 49) (v := ?vo_w32) (w1 := (w29.setCell ⟨go27, (t220 : Int).toNat, none⟩ (.int .i64 (wrap64 (x22_2 * ((rd_T36 l1 x16_1).f2)))))) ?hg ?ho ?hn ?hr ?_; (case ho => rfl); (case hg => rfl); (case hn => rfl); (case hr => first | (go_simp; done) | (go_simp; rfl)); intro w32 hw; have hg : w29.grownBy w32 (some go27) := (by rw [hw]; exact HP31.2); have hp_ : Kd.R (Kd.int .i64) 3 w32 w.heap.size (fun _ => True) (.slice (some ⟨go27, 0, none⟩) x5_2.length co30) y224 := (by rw [hw, Ny224.out]; exact HP31.1); clear HP31; replace BK218 := Aside0.mk (blk_grown (pk BK218) hg (Kd.R_ne HO_5.out BK218.out (by decide))); replace HO_5 := Aside0.mk (hp_); replace HB := Aside0.mk ((by rw [hw]; exact below_set (HB.out) GB27.out : Below w.heap.size w w32)); clear hg hw hp_))
             go_roundg k2
             case measure => have := HK1.out; have := HK2.out; omega
             case rel => exact ⟨(y224), (wrap64 (x22_2 + 1)), (rs), H', ⟨by have := HK1.out; have := HK2.out; omega⟩, ⟨pr HO_5⟩, ⟨pk BK218⟩, ⟨bw⟩⟩
            ·rw [if_neg c26] at H
             have c26b0 : decide ((wrap64 (x22_2 * ((rd_T36 l1 x16_1).f2))) < (rd x5_2 t220)) = false := decide_eq_false c26
             clear c26
             have H' := Aside0.mk H
             clear H
             have hcz33_0 : wr.cell? ⟨gb218, 0, none⟩ = some (.int .i64 ((rd_T36 l1 x16_1).f0)) := ec BK218
             have hcz33_1 : wr.cell? ⟨gb218, 1, none⟩ = some (.bool ((rd_T36 l1 x16_1).f1)) := ec BK218
             have hcz33_2 : wr.cell? ⟨gb218, 2, none⟩ = some (.int .i64 ((rd_T36 l1 x16_1).f2)) := ec BK218
             have hfz33_0 := blk_frozen BK218.out 0
             have hfz33_1 := blk_frozen BK218.out 1
             have hfz33_2 := blk_frozen BK218.out 2
             go_wp2_with (first | ((with_reducible refine gate_callee (f := 67) rfl ?_); refine gl (some 32) Tryz.func67 #[.agg #[.int .i64 ((rd_T36 l1 x16_1).f0), .bool ((rd_T36 l1 x16_1).f1), .int .i64 ((rd_T36 l1 x16_1).f2)], .int .i64 a0, .int .i64 (wrap64 (x22_2 * ((rd_T36 l1 x16_1).f2)))] ?_; (with_reducible refine (impl_Signal_place.calls ((rd_T36 l1 x16_1).f0) ((rd_T36 l1 x16_1).f1) ((rd_T36 l1 x16_1).f2) a0 (wrap64 (x22_2 * ((rd_T36 l1 x16_1).f2))) t220 _ A16.out).mono ?_); rintro e w34 ⟨rfl, hb⟩; refine ⟨_, rfl, ?_⟩; replace HO_5 := rl HO_5 hb; replace BK218 := nk BK218 hb; replace HB := bs hb; (try clear hb); obtain ⟨Ao35, co35, eo35⟩ := Kd.R_slice HO_5.out; subst eo35; have p221 : 0 ≤ (t220 : Int) := of_decide_eq_true asm; have q221 : t220 < (x5_2.length : Int) := of_decide_eq_true asm; obtain ⟨ad221, e221, hx221_0⟩ := Kd.at_int (Kd.R_reads' HO_5.out).2.2 t220 p221 q221; cases e221; replace p221 := eq_true p221; replace q221 := eq_true q221; have p223 : 0 ≤ (t220 : Int) := of_decide_eq_true asm; have q223 : t220 < (x5_2.length : Int) := of_decide_eq_true asm; obtain ⟨ad223, e223, hx223_0⟩ := Kd.at_int (Kd.R_reads' HO_5.out).2.2 t220 p223 q223; obtain rfl : ad221 = ad223 := (by injection e223); replace p223 := eq_true p223; replace q223 := eq_true q223))
             go_roundg k2
             case measure => have := HK1.out; have := HK2.out; omega
             case rel => exact ⟨(x5_2), (wrap64 (x22_2 + 1)), (rs), H', ⟨by have := HK1.out; have := HK2.out; omega⟩, ⟨pr HO_5⟩, ⟨pk BK218⟩, ⟨bw⟩⟩
          ·rw [if_neg c18] at H
           exact absurd H (by simp)
         ·rw [if_neg c17] at H
          exact absurd H (by simp)
        ·rw [if_neg c15] at H
         have c15b0 : decide (x22_2 < t219) = false := decide_eq_false c15
         clear c15
         have H' := Aside0.mk H
         clear H
         go_wp2
         go_roundg k2
         case measure => have := HK1.out; have := HK2.out; omega
         case rel => exact ⟨(x5_2), (wrap64 (x16_1 + 1)), (rs), H', ⟨by have := HK1.out; have := HK2.out; omega⟩, ⟨pr HO_5⟩, ⟨bw⟩⟩
     ·rw [if_neg c10] at H
      exact absurd H (by simp)
    ·rw [if_neg c9] at H
     exact absurd H (by simp)
   ·rw [if_neg c8] at H
    have c8b0 : decide (x16_1 < (l1.length : Int)) = false := decide_eq_false c8
    clear c8
    obtain rfl := Option.some.inj H
    go_wp2
    go_ret
    exact ⟨_, rs, pr HO_5, bw⟩

/-! ### impl_HeardBy: function 6 -/
mutual
def impl_HeardBy.j0 : Nat → Int → List (S36) → Int → Bool → Option (List Int × Bool)
  | 0, _, _, _, _ => none
  | k + 1, x0, x1, x2, x19 => if x19 = true then (some (([] : List Int), false)) else ((impl_heard.f k x0 x1).bind fun t230 => (impl_HeardBy.l0 k x2 (([] : List Int)) t230 (t230.length : Int) 0))
def impl_HeardBy.l0 : Nat → Int → List Int → List Int → Int → Int → Option (List Int × Bool)
  | 0, _, _, _, _, _ => none
  | k + 1, x2, x8, x23, x24, x25 => if x25 < x24 then (if 0 ≤ x25 then (if x25 < (x23.length : Int) then (if (rd x23 x25) ≤ x2 then (if x8.length < 17592186044416 then (impl_HeardBy.l0 k x2 (x8 ++ [x25]) x23 x24 (wrap64 (x25 + 1))) else (none)) else (impl_HeardBy.l0 k x2 x8 x23 x24 (wrap64 (x25 + 1)))) else (none)) else (none)) else (some (x8, true))
end
def impl_HeardBy.f (k : Nat) (a0 : Int) (l1 : List (S36)) (a2 : Int) : Option (List Int × Bool) := (impl_areSignals.f k a0 l1).bind fun t225 => (if t225 = true then ((impl_isSignalTime.f a2).bind fun t226 => (impl_HeardBy.j0 k a0 l1 a2 (!t226))) else (impl_HeardBy.j0 k a0 l1 a2 true))
theorem impl_HeardBy.mono_l : ∀ k, (∀ y0 y1 y2 y3, LeO (impl_HeardBy.j0 k y0 y1 y2 y3) (impl_HeardBy.j0 (k + 1) y0 y1 y2 y3)) ∧ (∀ y0 y1 y2 y3 y4, LeO (impl_HeardBy.l0 k y0 y1 y2 y3 y4) (impl_HeardBy.l0 (k + 1) y0 y1 y2 y3 y4))
  | 0 => ⟨fun _ _ _ _ r h => by simp [impl_HeardBy.j0] at h, fun _ _ _ _ _ r h => by simp [impl_HeardBy.l0] at h⟩
  | k + 1 => by
    obtain ⟨ih0, ih1⟩ := impl_HeardBy.mono_l k
    refine ⟨?q0, ?q1⟩
    case' q0 => (intros; unfold impl_HeardBy.j0)
    case' q1 => (intros; unfold impl_HeardBy.l0)
    all_goals repeat' first
     | (with_reducible exact ih0 _ _ _ _)
     | (with_reducible exact ih1 _ _ _ _ _)
     | (with_reducible exact impl_areSignals.mono _ _ _)
     | (with_reducible exact impl_heard.mono _ _ _)
     | (with_reducible exact LeO.refl _)
     | (with_reducible exact LeO.none _)
     | (with_reducible refine LeO.ite ?_ ?_)
     | (with_reducible refine LeO.bind ?_ (fun _ => ?_))
     | exact ih0 _ _ _ _
     | exact ih1 _ _ _ _ _
     | exact impl_areSignals.mono _ _ _
     | exact impl_heard.mono _ _ _
     | exact LeO.none _
     | refine LeO.ite ?_ ?_
     | refine LeO.bind ?_ (fun _ => ?_)
theorem impl_HeardBy.mono : ∀ a0 a1 a2 k, LeO (impl_HeardBy.f k a0 a1 a2) (impl_HeardBy.f (k + 1) a0 a1 a2) := by
  intro a0 a1 a2 k
  obtain ⟨ih0, ih1⟩ := impl_HeardBy.mono_l k
  unfold impl_HeardBy.f
  repeat' first
      | (with_reducible exact ih0 _ _ _ _)
      | (with_reducible exact ih1 _ _ _ _ _)
      | (with_reducible exact impl_areSignals.mono _ _ _)
      | (with_reducible exact impl_heard.mono _ _ _)
      | (with_reducible exact LeO.refl _)
      | (with_reducible exact LeO.none _)
      | (with_reducible refine LeO.ite ?_ ?_)
      | (with_reducible refine LeO.bind ?_ (fun _ => ?_))
      | exact ih0 _ _ _ _
      | exact ih1 _ _ _ _ _
      | exact impl_areSignals.mono _ _ _
      | exact impl_heard.mono _ _ _
      | exact LeO.none _
      | refine LeO.ite ?_ ?_
      | refine LeO.bind ?_ (fun _ => ?_)
set_option maxHeartbeats 8000000 in
set_option maxRecDepth 100000 in
theorem impl_HeardBy.calls (k : Nat) (a0 : Int) (A1 : Option Addr) (c1 : Nat) (l1 : List (S36)) (a2 : Int) (r1 : List Int) (r2 : Bool) (w : World) (hr1 : Kd.C k36 w A1 l1.length l1) (hc1 : l1.length ≤ c1) (h : impl_HeardBy.f k a0 l1 a2 = some (r1, r2)) :
  Calls Tryz.prog 6 #[.int .i64 a0, .slice A1 l1.length c1, .int .i64 a2] w fun e w' => ∃ v0_ : Value, e = .returned (.tuple #[v0_, .bool r2]) ∧ Kd.R (Kd.int .i64) 3 w' w.heap.size (fun _ => True) v0_ r1 ∧ Below w.heap.size w w' := by
 have HR1 := Aside0.mk hr1
 have HC1 := Aside0.mk hc1
 clear hr1 hc1
 have HB := Aside0.mk (Below.refl w.heap.size w)
 unfold impl_HeardBy.f at h
 have H := h
 clear h
 have HC4 := Aside0.mk H
 clear H
 go_enter Tryz.func6, Tryz.ntmps6
 go_upto_region 1 with (fail)
 go_cut [19] (fun v19 wc => ∃ (kq : Nat) (x19_3 : Bool), v19 = .bool x19_3 ∧ Aside0 (impl_HeardBy.j0 kq a0 l1 a2 x19_3 = some (r1, r2)) ∧ Aside0 (kq ≤ k) ∧ Aside0 (Below w.heap.size w wc))
 case first =>
  have H := HC4.out
  clear HC4
  replace H := Option.bind_eq_some_iff.mp H
  obtain ⟨t225, A50, H⟩ := H
  (try dsimp only at H)
  have A5 := Aside0.mk A50
  clear A50
  by_cases c6 : t225 = true
  ·subst c6
   rw [if_pos rfl] at H
   replace H := Option.bind_eq_some_iff.mp H
   obtain ⟨t226, A70, H⟩ := H
   (try dsimp only at H)
   have A7 := Aside0.mk A70
   clear A70
   have H' := Aside0.mk H
   clear H
   go_wp2_with (first | ((with_reducible refine gate_callee (f := 40) rfl ?_); refine gl (some 13) Tryz.func40 #[.int .i64 a0, .slice A1 l1.length c1] ?_; (with_reducible refine (impl_areSignals.calls k a0 _ _ l1 true _ ?side1 ?side2 A5.out).mono ?_); (case side1 => exact cb HR1); (case side2 => exact HC1.out); rintro e w8 ⟨rfl, hb⟩; refine ⟨_, rfl, ?_⟩; replace HB := bs hb; (try clear hb)) | (go_at_call 41; (with_reducible refine (impl_isSignalTime.calls a2 t226 _ A7.out).mono ?_); rintro e w' ⟨rfl, ⟨nd, rfl⟩⟩))
   go_meet
   case rel => exact ⟨_, (!t226), (rs), H', ⟨by first | omega | exact Nat.le_refl _⟩, ⟨bw⟩⟩
  ·replace c6 := Bool.eq_false_iff.mpr c6
   subst c6
   rw [if_neg (show ¬ (false = true) by decide)] at H
   have H' := Aside0.mk H
   clear H
   go_wp2_with (first | ((with_reducible refine gate_callee (f := 40) rfl ?_); refine gl (some 13) Tryz.func40 #[.int .i64 a0, .slice A1 l1.length c1] ?_; (with_reducible refine (impl_areSignals.calls k a0 _ _ l1 false _ ?side1 ?side2 A5.out).mono ?_); (case side1 => exact cb HR1); (case side2 => exact HC1.out); rintro e w9 ⟨rfl, hb⟩; refine ⟨_, rfl, ?_⟩; replace HB := bs hb; (try clear hb)))
   go_meet
   case rel => exact ⟨_, (true), (rs), H', ⟨by first | omega | exact Nat.le_refl _⟩, ⟨bw⟩⟩
 case rest =>
  clear HC4
  try clear c1
  try clear p2
  try clear c4
  try clear c6
  obtain ⟨kq, x19_3, rfl, HA, HJ3, HB⟩ := hcut
  cases kq with
  | zero => exact absurd HA.out (by simp [impl_HeardBy.j0])
  | succ kj3 =>
   have H := HA.out
   clear HA
   simp only [impl_HeardBy.j0] at H
   by_cases c10 : x19_3 = true
   ·subst c10
    rw [if_pos rfl] at H
    simp only [Option.some.injEq, Prod.mk.injEq] at H
    obtain ⟨rfl, rfl⟩ := H
    go_wp2
    go_ret2
    exact ⟨_, rs, by first | exact Kd.R_nil _ _ _ _ _ | exact Kd.N_nil _ _ _ _ _ | exact Kd.V_nil _ _ _ _ _ | exact Kd.Q_nil _ _ _ _ _ | exact Kd.S_nil _ _ _ _ _, bw⟩
   ·replace c10 := Bool.eq_false_iff.mpr c10
    subst c10
    rw [if_neg (show ¬ (false = true) by decide)] at H
    obtain ⟨y227, hy227⟩ : ∃ y_ : List Int, y_ = (([] : List Int)) := ⟨_, rfl⟩
    replace H : ((impl_heard.f kj3 a0 l1).bind fun t230 => (impl_HeardBy.l0 kj3 a2 y227 t230 (t230.length : Int) 0)) = some (r1, r2) := by first | (rw [hy227]; with_reducible exact H) | (have H2_ := (Option.bind_some _ _).symm.trans H; rw [hy227]; with_reducible exact H2_) | (have H2_ := (Option.bind_some _ _).symm.trans H; with_reducible exact H2_) | with_reducible exact H | (rw [hy227]; exact H) | exact H
    have Ny227 := Aside0.mk hy227
    clear hy227
    replace H := Option.bind_eq_some_iff.mp H
    obtain ⟨t230, A110, H⟩ := H
    (try dsimp only at H)
    have A11 := Aside0.mk A110
    clear A110
    have H' := Aside0.mk H
    clear H
    go_wp2_with (first | ((with_reducible refine gate_dst (N := 20) rfl ?_); refine Kd.R_lit (Kd.int .i64) _ 3 ?hg (N := 20) ?hd (xs := ([] : List Int)) (inner := []) (ok := fun _ => True) (okp := fun _ => True) ?hr ?hp (fun _ hk => hk) trivial (Below.refl _ _) (Nat.le_refl _) (by simp) ?_; (case hd => rfl); (case hg => rfl); (case hr => first | (go_simp; done) | (go_simp; rfl)); (case hp => exact (Reps.none _ _)); intro v228 w12 ho13 hb hg_ hnew_; clear hg_ hnew_; (first | rw [← Ny227.out] at ho13 | (simp only [Int.reduceToNat] at ho13; rw [← Ny227.out] at ho13)); have HO229 := Aside0.mk (Kd.R_lower ho13 (below_size bw)); replace HB := bs hb; clear hb ho13) | ((with_reducible refine gate_callee (f := 42) rfl ?_); refine gl (some 23) Tryz.func42 #[.int .i64 a0, .slice A1 l1.length c1] ?_; (with_reducible refine (impl_heard.calls kj3 a0 _ _ l1 t230 _ ?side1 ?side2 A11.out).mono ?_); (case side1 => exact cb HR1); (case side2 => exact HC1.out); rintro e w14 ⟨v231, rfl, ho0, hb⟩; refine ⟨_, rfl, ?_⟩; have HO232 := Aside0.mk (Kd.R_lower (Kd.R_new' ho0 (Kd.R_lt (pr HO229))) (below_size bw)); replace HO229 := re HO229 ho0 hb; replace HB := bs hb; (try clear hb); (try clear ho0); obtain ⟨Ao15, co15, eo15⟩ := Kd.R_slice HO232.out; subst eo15))
    go_loopg [8, 25] kj3 (fun kq v8 v25 w' => ∃ (x8_2 : List Int) (x25_2 : Int), v25 = .int .i64 x25_2 ∧ Aside0 (impl_HeardBy.l0 kq a2 x8_2 t230 (t230.length : Int) x25_2 = some (r1, r2)) ∧ Aside0 (kq ≤ kj3) ∧ Aside0 (Kd.R (Kd.int .i64) 3 w' w.heap.size (fun k_ => some k_ ≠ ((.slice Ao15 t230.length co15) : Value).ownBlock) v8 x8_2) ∧ Aside0 (Kd.R (Kd.int .i64) 3 w' w.heap.size (fun k_ => some k_ ≠ (v8 : Value).ownBlock) (.slice Ao15 t230.length co15) t230) ∧ Aside0 (Below w.heap.size w w'))
    case atStart => exact ⟨(y227), (0), (rs), H', ⟨Nat.le_refl _⟩, ⟨by (with_reducible repeat (first | apply Kd.R_alloc | apply Kd.R_drewN | apply Kd.R_drew)); exact Kd.R_mono HO229.out (fun _ hk => hk.2)⟩, ⟨by (with_reducible repeat (first | apply Kd.R_alloc | apply Kd.R_drewN | apply Kd.R_drew)); exact Kd.R_mono HO232.out (fun _ hk => hk.2)⟩, ⟨bw⟩⟩
    case round =>
     clear H'
     try clear c1
     try clear p2
     try clear c4
     try clear c6
     try clear c10
     try clear p2
     obtain ⟨x8_2, x25_2, rfl, HA, HK2, HO_8, HO_23, HB⟩ := hrel
     cases gk with
     | zero => exact absurd HA.out (by simp [impl_HeardBy.l0])
     | succ k2 =>
      have H := HA.out
      clear HA
      simp only [impl_HeardBy.l0] at H
      by_cases c16 : x25_2 < (t230.length : Int)
      ·rw [if_pos c16] at H
       have c16b0 : decide (x25_2 < (t230.length : Int)) = true := decide_eq_true c16
       clear c16
       by_cases c17 : 0 ≤ x25_2
       ·rw [if_pos c17] at H
        have c17b0 : decide (0 ≤ x25_2) = true := decide_eq_true c17
        clear c17
        by_cases c18 : x25_2 < (t230.length : Int)
        ·rw [if_pos c18] at H
         have c18b0 : decide (x25_2 < (t230.length : Int)) = true := decide_eq_true c18
         clear c18
         by_cases c19 : (rd t230 x25_2) ≤ a2
         ·rw [if_pos c19] at H
          have c19b0 : decide ((rd t230 x25_2) ≤ a2) = true := decide_eq_true c19
          clear c19
          by_cases c20 : x8_2.length < 17592186044416
          ·rw [if_pos c20] at H
           have LMc20 := Aside0.mk c20
           clear c20
           obtain ⟨y234, hy234⟩ : ∃ y_ : List Int, y_ = (x8_2 ++ [x25_2]) := ⟨_, rfl⟩
           replace H : (impl_HeardBy.l0 k2 a2 y234 t230 (t230.length : Int) (wrap64 (x25_2 + 1))) = some (r1, r2) := by first | (rw [hy234]; with_reducible exact H) | (have H2_ := (Option.bind_some _ _).symm.trans H; rw [hy234]; with_reducible exact H2_) | (have H2_ := (Option.bind_some _ _).symm.trans H; with_reducible exact H2_) | with_reducible exact H | (rw [hy234]; exact H) | exact H
           have Ny234 := Aside0.mk hy234
           clear hy234
           have H' := Aside0.mk H
           clear H
           have p233 : 0 ≤ (x25_2 : Int) := of_decide_eq_true asm
           have q233 : x25_2 < (t230.length : Int) := of_decide_eq_true asm
           obtain ⟨ad233, e233, hx233_0⟩ := Kd.at_int (Kd.R_reads' HO_23.out).2.2 x25_2 p233 q233
           cases e233
           replace p233 := eq_true p233
           replace q233 := eq_true q233
           go_wp2_with (first | ((with_reducible refine gate_builtin (b := .append) (xs := #[.tmp 33, .tmp 35]) rfl ?_); at_builtin; refine Kd.R_append (Kd.int .i64) (w0 := w) w.heap.size rfl (.tmp 33) (.tmp 35) 27 3 (.int .i64 0) 8 rfl Tryz.underlying27 info3 rfl (by decide) (by omega) u8 x8_2 x25_2 [.int .i64 x25_2] (fun k_ => some k_ ≠ (.slice (some ad233) t230.length co15 : Value).ownBlock) (fun _ => False) rfl rfl ?aP (fun _ hk => hk.elim) ?aF ?aO ?aB ?aS ?aL ?_; (case aP => exact rfl); (case aB => exact bw); (case aF => exact (fun k_ hk => Kd.fresh' (Kd.R_lt (pr HO_23)) k_ hk)); (case aO => exact (pr HO_8)); (case aS => exact (below_size bw)); (case aL => have := LMc20.out; omega); intro v235 w21 ho hb hg hat; rw [← Ny234.out] at ho; have n0_ := Aside0.mk (Kd.R_after (ok := (fun _ => True)) (by (with_reducible repeat (first | apply Kd.R_alloc | apply Kd.R_drewN | apply Kd.R_drew)); exact Kd.R_mono HO_23.out (fun _ hk => ⟨trivial, hk⟩)) hg hat); have n1_ := Aside0.mk (hb); have n2_ := Aside0.mk (ho); clear HO_23; clear HB; clear HO_8; have HO_23 := n0_; have HB := n1_; have HO236 := n2_; clear n0_ n1_ n2_; clear ho hb hg hat))
           go_roundg k2
           case measure => have := HJ3.out; have := HK2.out; omega
           case rel => exact ⟨(y234), (wrap64 (x25_2 + 1)), (rs), H', ⟨by have := HJ3.out; have := HK2.out; omega⟩, ⟨pr HO236⟩, ⟨by (with_reducible repeat (first | apply Kd.R_alloc | apply Kd.R_drewN | apply Kd.R_drew)); exact Kd.R_mono HO_23.out (fun _ hk => hk.2)⟩, ⟨bw⟩⟩
          ·rw [if_neg c20] at H
           exact absurd H (by simp)
         ·rw [if_neg c19] at H
          have c19b0 : decide ((rd t230 x25_2) ≤ a2) = false := decide_eq_false c19
          clear c19
          have H' := Aside0.mk H
          clear H
          have p233 : 0 ≤ (x25_2 : Int) := of_decide_eq_true asm
          have q233 : x25_2 < (t230.length : Int) := of_decide_eq_true asm
          obtain ⟨ad233, e233, hx233_0⟩ := Kd.at_int (Kd.R_reads' HO_23.out).2.2 x25_2 p233 q233
          cases e233
          replace p233 := eq_true p233
          replace q233 := eq_true q233
          go_wp2
          go_roundg k2
          case measure => have := HJ3.out; have := HK2.out; omega
          case rel => exact ⟨(x8_2), (wrap64 (x25_2 + 1)), (rs), H', ⟨by have := HJ3.out; have := HK2.out; omega⟩, ⟨pr HO_8⟩, ⟨pr HO_23⟩, ⟨bw⟩⟩
        ·rw [if_neg c18] at H
         exact absurd H (by simp)
       ·rw [if_neg c17] at H
        exact absurd H (by simp)
      ·rw [if_neg c16] at H
       have c16b0 : decide (x25_2 < (t230.length : Int)) = false := decide_eq_false c16
       clear c16
       simp only [Option.some.injEq, Prod.mk.injEq] at H
       obtain ⟨rfl, rfl⟩ := H
       go_wp2
       go_ret2
       exact ⟨_, rs, by (with_reducible repeat (first | apply Kd.R_alloc | apply Kd.R_drewN | apply Kd.R_drew)); exact Kd.R_mono HO_8.out (fun _ hk => trivial), bw⟩

/-! ### spec_l1In: function 60 -/
def spec_l1In.f (a0 : Int) (a1 : Int) (a2 : Int) : Option (Bool) := if a0 ≥ a1 then (some (decide (a0 ≤ a2))) else (some false)
set_option maxHeartbeats 8000000 in
set_option maxRecDepth 100000 in
theorem spec_l1In.calls (a0 : Int) (a1 : Int) (a2 : Int) (r : Bool) (w : World) (h : spec_l1In.f a0 a1 a2 = some r) :
  Calls Tryz.prog 60 #[.int .i64 a0, .int .i64 a1, .int .i64 a2] w fun e w' => e = .returned (.bool r) ∧ Drawn0 w w' := by
 unfold spec_l1In.f at h
 have H := h
 clear h
 by_cases c4 : a0 ≥ a1
 ·rw [if_pos c4] at H
  have c4b0 : decide (a1 ≤ a0) = true := decide_eq_true c4
  clear c4
  obtain rfl := Option.some.inj H
  go_enter Tryz.func60, Tryz.ntmps60
  go_wp2
  go_ret
  exact ⟨rs, by repeat (first | exact Drawn0.refl _ | apply Drawn0.step)⟩
 ·rw [if_neg c4] at H
  have c4b0 : decide (a1 ≤ a0) = false := decide_eq_false c4
  clear c4
  obtain rfl := Option.some.inj H
  go_enter Tryz.func60, Tryz.ntmps60
  go_wp2
  go_ret
  exact ⟨rs, by repeat (first | exact Drawn0.refl _ | apply Drawn0.step)⟩

/-! ### spec_siSoldiers: function 43 -/
def spec_siSoldiers.f (a0 : Int) : Option (Bool) := (spec_l1In.f a0 1 100).bind fun t237 => (some t237)
set_option maxHeartbeats 8000000 in
set_option maxRecDepth 100000 in
theorem spec_siSoldiers.calls (a0 : Int) (r : Bool) (w : World) (h : spec_siSoldiers.f a0 = some r) :
  Calls Tryz.prog 43 #[.int .i64 a0] w fun e w' => e = .returned (.bool r) ∧ Drawn0 w w' := by
 unfold spec_siSoldiers.f at h
 have H := h
 clear h
 replace H := Option.bind_eq_some_iff.mp H
 obtain ⟨t237, A20, H⟩ := H
 (try dsimp only at H)
 have A2 := Aside0.mk A20
 clear A20
 obtain rfl := Option.some.inj H
 go_enter Tryz.func43, Tryz.ntmps43
 go_wp2_with (first | ((with_reducible refine gate_callee (f := 60) rfl ?_); refine gl (some 4) Tryz.func60 #[.int .i64 a0, .int .i64 1, .int .i64 100] ?_; (with_reducible refine (spec_l1In.calls a0 1 100 t237 _ A2.out).mono ?_); rintro e w' ⟨rfl, ⟨nd, rfl⟩⟩; refine ⟨_, rfl, ?_⟩))
 go_ret
 exact ⟨rs, by repeat (first | exact Drawn0.refl _ | apply Drawn0.step)⟩

/-! ### spec_siSignal: function 72 -/
def spec_siSignal.f (a0 : Int) (a1_0 : Int) (a1_1 : Bool) (a1_2 : Int) : Option (Bool) := (spec_siSoldiers.f a0).bind fun t239 => (if t239 = true then ((spec_l1In.f a1_0 0 (wrap64 (a0 - 1))).bind fun t240 => (if t240 = true then ((spec_l1In.f a1_2 1 10).bind fun t241 => (some t241)) else (some false))) else (some false))
set_option maxHeartbeats 8000000 in
set_option maxRecDepth 100000 in
theorem spec_siSignal.calls (a0 : Int) (a1_0 : Int) (a1_1 : Bool) (a1_2 : Int) (r : Bool) (w : World) (h : spec_siSignal.f a0 a1_0 a1_1 a1_2 = some r) :
  Calls Tryz.prog 72 #[.int .i64 a0, .agg #[.int .i64 a1_0, .bool a1_1, .int .i64 a1_2]] w fun e w' => e = .returned (.bool r) ∧ Below w.heap.size w w' := by
 have hu36 := Tryz.underlying36
 have HB := Aside0.mk (Below.refl w.heap.size w)
 unfold spec_siSignal.f at h
 have H := h
 clear h
 replace H := Option.bind_eq_some_iff.mp H
 obtain ⟨t239, A30, H⟩ := H
 (try dsimp only at H)
 have A3 := Aside0.mk A30
 clear A30
 by_cases c4 : t239 = true
 ·subst c4
  rw [if_pos rfl] at H
  replace H := Option.bind_eq_some_iff.mp H
  obtain ⟨t240, A50, H⟩ := H
  (try dsimp only at H)
  have A5 := Aside0.mk A50
  clear A50
  by_cases c6 : t240 = true
  ·subst c6
   rw [if_pos rfl] at H
   replace H := Option.bind_eq_some_iff.mp H
   obtain ⟨t241, A70, H⟩ := H
   (try dsimp only at H)
   have A7 := Aside0.mk A70
   clear A70
   obtain rfl := Option.some.inj H
   go_enter Tryz.func72, Tryz.ntmps72
   go_wp2_with (first | ((with_reducible refine gate_dst (N := 3) rfl ?_); refine bx 3 36 #[.int .i64 a1_0, .bool a1_1, .int .i64 a1_2] ?_; intro gb238 hg w8 hbox hb; have BK238 := hbox; have GW238 := gs hg; have GE238 := gs hg; replace HB := bs hb; clear hb hbox hg) | ((with_reducible refine gate_callee (f := 43) rfl ?_); refine gl (some 6) Tryz.func43 #[.int .i64 a0] ?_; (with_reducible refine (spec_siSoldiers.calls a0 true _ A3.out).mono ?_); rintro e w' ⟨rfl, ⟨nd, rfl⟩⟩; refine ⟨_, rfl, ?_⟩; have hcz9_0 := bc BK238 0 (.int .i64 a1_0); have hcz9_1 := bc BK238 1 (.bool a1_1); have hcz9_2 := bc BK238 2 (.int .i64 a1_2); have hfz9_0 := blk_frozen BK238.out 0; have hfz9_1 := blk_frozen BK238.out 1; have hfz9_2 := blk_frozen BK238.out 2) | (go_at_call 60; (with_reducible refine (spec_l1In.calls a1_0 0 (wrap64 (a0 - 1)) true _ A5.out).mono ?_); rintro e w' ⟨rfl, ⟨nd, rfl⟩⟩) | (go_at_call 60; (with_reducible refine (spec_l1In.calls a1_2 1 10 t241 _ A7.out).mono ?_); rintro e w' ⟨rfl, ⟨nd, rfl⟩⟩))
   go_ret
   exact ⟨rs, bw⟩
  ·replace c6 := Bool.eq_false_iff.mpr c6
   subst c6
   rw [if_neg (show ¬ (false = true) by decide)] at H
   obtain rfl := Option.some.inj H
   go_enter Tryz.func72, Tryz.ntmps72
   go_wp2_with (first | ((with_reducible refine gate_dst (N := 3) rfl ?_); refine bx 3 36 #[.int .i64 a1_0, .bool a1_1, .int .i64 a1_2] ?_; intro gb238 hg w10 hbox hb; have BK238 := hbox; have GW238 := gs hg; have GE238 := gs hg; replace HB := bs hb; clear hb hbox hg) | ((with_reducible refine gate_callee (f := 43) rfl ?_); refine gl (some 6) Tryz.func43 #[.int .i64 a0] ?_; (with_reducible refine (spec_siSoldiers.calls a0 true _ A3.out).mono ?_); rintro e w' ⟨rfl, ⟨nd, rfl⟩⟩; refine ⟨_, rfl, ?_⟩; have hcz11_0 := bc BK238 0 (.int .i64 a1_0); have hcz11_1 := bc BK238 1 (.bool a1_1); have hcz11_2 := bc BK238 2 (.int .i64 a1_2); have hfz11_0 := blk_frozen BK238.out 0; have hfz11_1 := blk_frozen BK238.out 1; have hfz11_2 := blk_frozen BK238.out 2) | (go_at_call 60; (with_reducible refine (spec_l1In.calls a1_0 0 (wrap64 (a0 - 1)) false _ A5.out).mono ?_); rintro e w' ⟨rfl, ⟨nd, rfl⟩⟩))
   go_ret
   exact ⟨rs, bw⟩
 ·replace c4 := Bool.eq_false_iff.mpr c4
  subst c4
  rw [if_neg (show ¬ (false = true) by decide)] at H
  obtain rfl := Option.some.inj H
  go_enter Tryz.func72, Tryz.ntmps72
  go_wp2_with (first | ((with_reducible refine gate_dst (N := 3) rfl ?_); refine bx 3 36 #[.int .i64 a1_0, .bool a1_1, .int .i64 a1_2] ?_; intro gb238 hg w12 hbox hb; have BK238 := hbox; have GW238 := gs hg; have GE238 := gs hg; replace HB := bs hb; clear hb hbox hg) | ((with_reducible refine gate_callee (f := 43) rfl ?_); refine gl (some 6) Tryz.func43 #[.int .i64 a0] ?_; (with_reducible refine (spec_siSoldiers.calls a0 false _ A3.out).mono ?_); rintro e w' ⟨rfl, ⟨nd, rfl⟩⟩; refine ⟨_, rfl, ?_⟩))
  go_ret
  exact ⟨rs, bw⟩

/-! ### spec_siList: function 44 -/
def spec_siList.l0 : Nat → Int → List (S36) → Int → Int → Option (Bool)
  | 0, _, _, _, _ => none
  | k + 1, x0, x11, x12, x13 => if x13 < x12 then (if 0 ≤ x13 then (if x13 < (x11.length : Int) then ((spec_siSignal.f x0 ((rd_T36 x11 x13).f0) ((rd_T36 x11 x13).f1) ((rd_T36 x11 x13).f2)).bind fun t245 => (if t245 = true then (spec_siList.l0 k x0 x11 x12 (wrap64 (x13 + 1))) else (some false))) else (none)) else (none)) else (some true)
def spec_siList.f (k : Nat) (a0 : Int) (l1 : List (S36)) : Option (Bool) := (spec_l1In.f (l1.length : Int) 1 10).bind fun t242 => (if t242 = true then (spec_siList.l0 k a0 l1 (l1.length : Int) 0) else (some false))
theorem spec_siList.mono_l : ∀ k, (∀ y0 y1 y2 y3, LeO (spec_siList.l0 k y0 y1 y2 y3) (spec_siList.l0 (k + 1) y0 y1 y2 y3))
  | 0 => fun _ _ _ _ r h => by simp [spec_siList.l0] at h
  | k + 1 => by
    have ih0 := spec_siList.mono_l k
    · intro y0 y1 y2 y3
      unfold spec_siList.l0
      repeat' first
      | (with_reducible exact ih0 _ _ _ _)
      | (with_reducible exact LeO.refl _)
      | (with_reducible exact LeO.none _)
      | (with_reducible refine LeO.ite ?_ ?_)
      | (with_reducible refine LeO.bind ?_ (fun _ => ?_))
      | exact ih0 _ _ _ _
      | exact LeO.none _
      | refine LeO.ite ?_ ?_
      | refine LeO.bind ?_ (fun _ => ?_)
theorem spec_siList.mono : ∀ a0 a1 k, LeO (spec_siList.f k a0 a1) (spec_siList.f (k + 1) a0 a1) := by
  intro a0 a1 k
  have ih0 := spec_siList.mono_l k
  unfold spec_siList.f
  repeat' first
      | (with_reducible exact ih0 _ _ _ _)
      | (with_reducible exact LeO.refl _)
      | (with_reducible exact LeO.none _)
      | (with_reducible refine LeO.ite ?_ ?_)
      | (with_reducible refine LeO.bind ?_ (fun _ => ?_))
      | exact ih0 _ _ _ _
      | exact LeO.none _
      | refine LeO.ite ?_ ?_
      | refine LeO.bind ?_ (fun _ => ?_)
set_option maxHeartbeats 8000000 in
set_option maxRecDepth 100000 in
theorem spec_siList.calls (k : Nat) (a0 : Int) (A1 : Option Addr) (c1 : Nat) (l1 : List (S36)) (r : Bool) (w : World) (hr1 : Kd.C k36 w A1 l1.length l1) (hc1 : l1.length ≤ c1) (h : spec_siList.f k a0 l1 = some r) :
  Calls Tryz.prog 44 #[.int .i64 a0, .slice A1 l1.length c1] w fun e w' => e = .returned (.bool r) ∧ Below w.heap.size w w' := by
 have hu36 := Tryz.underlying36
 have HR1 := Aside0.mk hr1
 have HC1 := Aside0.mk hc1
 clear hr1 hc1
 have HB := Aside0.mk (Below.refl w.heap.size w)
 unfold spec_siList.f at h
 have H := h
 clear h
 replace H := Option.bind_eq_some_iff.mp H
 obtain ⟨t242, A30, H⟩ := H
 (try dsimp only at H)
 have A3 := Aside0.mk A30
 clear A30
 by_cases c4 : t242 = true
 ·subst c4
  rw [if_pos rfl] at H
  have H' := Aside0.mk H
  clear H
  go_enter Tryz.func44, Tryz.ntmps44
  go_wp2_with (first | ((with_reducible refine gate_callee (f := 60) rfl ?_); refine gl (some 9) Tryz.func60 #[.int .i64 (l1.length : Int), .int .i64 1, .int .i64 10] ?_; (with_reducible refine (spec_l1In.calls (l1.length : Int) 1 10 true _ A3.out).mono ?_); rintro e w' ⟨rfl, ⟨nd, rfl⟩⟩; refine ⟨_, rfl, ?_⟩))
  go_loopg [13] k (fun kq v13 w' => ∃ (x13_1 : Int), v13 = .int .i64 x13_1 ∧ Aside0 (spec_siList.l0 kq a0 l1 (l1.length : Int) x13_1 = some r) ∧ Aside0 (kq ≤ k) ∧ Aside0 (Below w.heap.size w w'))
  case atStart => exact ⟨(0), (rs), H', ⟨Nat.le_refl _⟩, ⟨bw⟩⟩
  case round =>
   clear H'
   try clear c1
   try clear p2
   try clear c4
   obtain ⟨x13_1, rfl, HA, HK1, HB⟩ := hrel
   cases gk with
   | zero => exact absurd HA.out (by simp [spec_siList.l0])
   | succ k1 =>
    have H := HA.out
    clear HA
    simp only [spec_siList.l0] at H
    by_cases c5 : x13_1 < (l1.length : Int)
    ·rw [if_pos c5] at H
     have c5b0 : decide (x13_1 < (l1.length : Int)) = true := decide_eq_true c5
     clear c5
     by_cases c6 : 0 ≤ x13_1
     ·rw [if_pos c6] at H
      have c6b0 : decide (0 ≤ x13_1) = true := decide_eq_true c6
      clear c6
      by_cases c7 : x13_1 < (l1.length : Int)
      ·rw [if_pos c7] at H
       have c7b0 : decide (x13_1 < (l1.length : Int)) = true := decide_eq_true c7
       clear c7
       replace H := Option.bind_eq_some_iff.mp H
       obtain ⟨t245, A80, H⟩ := H
       (try dsimp only at H)
       have A8 := Aside0.mk A80
       clear A80
       by_cases c9 : t245 = true
       ·subst c9
        rw [if_pos rfl] at H
        have H' := Aside0.mk H
        clear H
        have p243 : 0 ≤ (x13_1 : Int) := of_decide_eq_true asm
        have q243 : x13_1 < (l1.length : Int) := of_decide_eq_true asm
        obtain ⟨ad243, e243, hx243_0, hx243_1, hx243_2⟩ := at_T36 HR1.out x13_1 p243 q243
        cases e243
        replace hx243_0 := (HB.out.cell (World.block_lt_of_cell? w _ hx243_0)).trans hx243_0
        replace hx243_1 := (HB.out.cell (World.block_lt_of_cell? w _ hx243_1)).trans hx243_1
        replace hx243_2 := (HB.out.cell (World.block_lt_of_cell? w _ hx243_2)).trans hx243_2
        replace p243 := eq_true p243
        replace q243 := eq_true q243
        go_wp2_with (first | ((with_reducible refine gate_dst (N := 6) rfl ?_); refine bx 6 36 #[.int .i64 0, .bool false, .int .i64 0] ?_; intro gb244 hg w10 hbox hb; have BK244 := hbox; have GW244 := gs hg; have GE244 := gs hg; replace HB := bs hb; clear hb hbox hg; have hcz11_0 := bc BK244 0 (.int .i64 0); have hcz11_1 := bc BK244 1 (.bool false); have hcz11_2 := bc BK244 2 (.int .i64 0); have hfz11_0 := blk_frozen BK244.out 0; have hfz11_1 := blk_frozen BK244.out 1; have hfz11_2 := blk_frozen BK244.out 2) | ((with_reducible refine gate_callee (f := 72) rfl ?_); refine gl (some 19) Tryz.func72 #[.int .i64 a0, .agg #[.int .i64 ((rd_T36 l1 x13_1).f0), .bool ((rd_T36 l1 x13_1).f1), .int .i64 ((rd_T36 l1 x13_1).f2)]] ?_; (with_reducible refine (spec_siSignal.calls a0 ((rd_T36 l1 x13_1).f0) ((rd_T36 l1 x13_1).f1) ((rd_T36 l1 x13_1).f2) true _ A8.out).mono ?_); rintro e w12 ⟨rfl, hb⟩; refine ⟨_, rfl, ?_⟩; replace BK244 := Aside0.mk (blk_below (g := gb244) (o := .cells #[.int .i64 ((rd_T36 l1 x13_1).f0), .bool ((rd_T36 l1 x13_1).f1), .int .i64 ((rd_T36 l1 x13_1).f2)] 36 (0, 0)) (by (with_reducible repeat (first | refine blk_drewN ?_ _ | refine blk_drew ?_ | refine blk_alloc ?_ _)); refine blk_put (cs := #[.int .i64 ((rd_T36 l1 x13_1).f0), .bool ((rd_T36 l1 x13_1).f1), .int .i64 0]) ?_ 2 _ rfl; (with_reducible repeat (first | refine blk_drewN ?_ _ | refine blk_drew ?_ | refine blk_alloc ?_ _)); refine blk_put (cs := #[.int .i64 ((rd_T36 l1 x13_1).f0), .bool false, .int .i64 0]) ?_ 1 _ rfl; (with_reducible repeat (first | refine blk_drewN ?_ _ | refine blk_drew ?_ | refine blk_alloc ?_ _)); refine blk_put (cs := #[.int .i64 0, .bool false, .int .i64 0]) ?_ 0 _ rfl; (with_reducible repeat (first | refine blk_drewN ?_ _ | refine blk_drew ?_ | refine blk_alloc ?_ _)); exact BK244.out) hb); replace HB := bs hb; (try clear hb)))
        go_roundg k1
        case measure => have := HK1.out; omega
        case rel => exact ⟨(wrap64 (x13_1 + 1)), (rs), H', ⟨by have := HK1.out; omega⟩, ⟨bw⟩⟩
       ·replace c9 := Bool.eq_false_iff.mpr c9
        subst c9
        rw [if_neg (show ¬ (false = true) by decide)] at H
        obtain rfl := Option.some.inj H
        have p243 : 0 ≤ (x13_1 : Int) := of_decide_eq_true asm
        have q243 : x13_1 < (l1.length : Int) := of_decide_eq_true asm
        obtain ⟨ad243, e243, hx243_0, hx243_1, hx243_2⟩ := at_T36 HR1.out x13_1 p243 q243
        cases e243
        replace hx243_0 := (HB.out.cell (World.block_lt_of_cell? w _ hx243_0)).trans hx243_0
        replace hx243_1 := (HB.out.cell (World.block_lt_of_cell? w _ hx243_1)).trans hx243_1
        replace hx243_2 := (HB.out.cell (World.block_lt_of_cell? w _ hx243_2)).trans hx243_2
        replace p243 := eq_true p243
        replace q243 := eq_true q243
        go_wp2_with (first | ((with_reducible refine gate_dst (N := 6) rfl ?_); refine bx 6 36 #[.int .i64 0, .bool false, .int .i64 0] ?_; intro gb244 hg w13 hbox hb; have BK244 := hbox; have GW244 := gs hg; have GE244 := gs hg; replace HB := bs hb; clear hb hbox hg; have hcz14_0 := bc BK244 0 (.int .i64 0); have hcz14_1 := bc BK244 1 (.bool false); have hcz14_2 := bc BK244 2 (.int .i64 0); have hfz14_0 := blk_frozen BK244.out 0; have hfz14_1 := blk_frozen BK244.out 1; have hfz14_2 := blk_frozen BK244.out 2) | ((with_reducible refine gate_callee (f := 72) rfl ?_); refine gl (some 19) Tryz.func72 #[.int .i64 a0, .agg #[.int .i64 ((rd_T36 l1 x13_1).f0), .bool ((rd_T36 l1 x13_1).f1), .int .i64 ((rd_T36 l1 x13_1).f2)]] ?_; (with_reducible refine (spec_siSignal.calls a0 ((rd_T36 l1 x13_1).f0) ((rd_T36 l1 x13_1).f1) ((rd_T36 l1 x13_1).f2) false _ A8.out).mono ?_); rintro e w15 ⟨rfl, hb⟩; refine ⟨_, rfl, ?_⟩; replace BK244 := Aside0.mk (blk_below (g := gb244) (o := .cells #[.int .i64 ((rd_T36 l1 x13_1).f0), .bool ((rd_T36 l1 x13_1).f1), .int .i64 ((rd_T36 l1 x13_1).f2)] 36 (0, 0)) (by (with_reducible repeat (first | refine blk_drewN ?_ _ | refine blk_drew ?_ | refine blk_alloc ?_ _)); refine blk_put (cs := #[.int .i64 ((rd_T36 l1 x13_1).f0), .bool ((rd_T36 l1 x13_1).f1), .int .i64 0]) ?_ 2 _ rfl; (with_reducible repeat (first | refine blk_drewN ?_ _ | refine blk_drew ?_ | refine blk_alloc ?_ _)); refine blk_put (cs := #[.int .i64 ((rd_T36 l1 x13_1).f0), .bool false, .int .i64 0]) ?_ 1 _ rfl; (with_reducible repeat (first | refine blk_drewN ?_ _ | refine blk_drew ?_ | refine blk_alloc ?_ _)); refine blk_put (cs := #[.int .i64 0, .bool false, .int .i64 0]) ?_ 0 _ rfl; (with_reducible repeat (first | refine blk_drewN ?_ _ | refine blk_drew ?_ | refine blk_alloc ?_ _)); exact BK244.out) hb); replace HB := bs hb; (try clear hb)))
        go_ret
        exact ⟨rs, bw⟩
      ·rw [if_neg c7] at H
       exact absurd H (by simp)
     ·rw [if_neg c6] at H
      exact absurd H (by simp)
    ·rw [if_neg c5] at H
     have c5b0 : decide (x13_1 < (l1.length : Int)) = false := decide_eq_false c5
     clear c5
     obtain rfl := Option.some.inj H
     go_wp2
     go_ret
     exact ⟨rs, bw⟩
 ·replace c4 := Bool.eq_false_iff.mpr c4
  subst c4
  rw [if_neg (show ¬ (false = true) by decide)] at H
  obtain rfl := Option.some.inj H
  go_enter Tryz.func44, Tryz.ntmps44
  go_wp2_with (first | ((with_reducible refine gate_callee (f := 60) rfl ?_); refine gl (some 9) Tryz.func60 #[.int .i64 (l1.length : Int), .int .i64 1, .int .i64 10] ?_; (with_reducible refine (spec_l1In.calls (l1.length : Int) 1 10 false _ A3.out).mono ?_); rintro e w' ⟨rfl, ⟨nd, rfl⟩⟩; refine ⟨_, rfl, ?_⟩))
  go_ret
  exact ⟨rs, bw⟩

/-! ### spec_siTime: function 45 -/
def spec_siTime.f (a0 : Int) : Option (Bool) := (spec_l1In.f a0 0 100000).bind fun t246 => (some t246)
set_option maxHeartbeats 8000000 in
set_option maxRecDepth 100000 in
theorem spec_siTime.calls (a0 : Int) (r : Bool) (w : World) (h : spec_siTime.f a0 = some r) :
  Calls Tryz.prog 45 #[.int .i64 a0] w fun e w' => e = .returned (.bool r) ∧ Drawn0 w w' := by
 unfold spec_siTime.f at h
 have H := h
 clear h
 replace H := Option.bind_eq_some_iff.mp H
 obtain ⟨t246, A20, H⟩ := H
 (try dsimp only at H)
 have A2 := Aside0.mk A20
 clear A20
 obtain rfl := Option.some.inj H
 go_enter Tryz.func45, Tryz.ntmps45
 go_wp2_with (first | ((with_reducible refine gate_callee (f := 60) rfl ?_); refine gl (some 4) Tryz.func60 #[.int .i64 a0, .int .i64 0, .int .i64 100000] ?_; (with_reducible refine (spec_l1In.calls a0 0 100000 t246 _ A2.out).mono ?_); rintro e w' ⟨rfl, ⟨nd, rfl⟩⟩; refine ⟨_, rfl, ?_⟩))
 go_ret
 exact ⟨rs, by repeat (first | exact Drawn0.refl _ | apply Drawn0.step)⟩

/-! ### spec_siFirst: function 46 -/
def spec_siFirst.f (a0 : Int) (a1_0 : Int) (a1_1 : Bool) (a1_2 : Int) (a2 : Int) : Option (Int) := if a0 = 1 then (some 0) else (if a1_1 = true then (if (wrap64 (2 * (wrap64 (a0 - 1)))) = 0 then (none) else ((spec_l1Least.f (Int.tmod (wrap64 ((wrap64 (a2 - (wrap64 ((wrap64 (2 * (wrap64 (a0 - 1)))) - a1_0)))) + (wrap64 (2 * (wrap64 (2 * (wrap64 (a0 - 1)))))))) (wrap64 (2 * (wrap64 (a0 - 1))))) (Int.tmod (wrap64 ((wrap64 ((wrap64 ((wrap64 (2 * (wrap64 (a0 - 1)))) - a2)) - (wrap64 ((wrap64 (2 * (wrap64 (a0 - 1)))) - a1_0)))) + (wrap64 (2 * (wrap64 (2 * (wrap64 (a0 - 1)))))))) (wrap64 (2 * (wrap64 (a0 - 1)))))).bind fun t248 => (some (wrap64 (t248 * a1_2))))) else (if (wrap64 (2 * (wrap64 (a0 - 1)))) = 0 then (none) else ((spec_l1Least.f (Int.tmod (wrap64 ((wrap64 (a2 - a1_0)) + (wrap64 (2 * (wrap64 (2 * (wrap64 (a0 - 1)))))))) (wrap64 (2 * (wrap64 (a0 - 1))))) (Int.tmod (wrap64 ((wrap64 ((wrap64 ((wrap64 (2 * (wrap64 (a0 - 1)))) - a2)) - a1_0)) + (wrap64 (2 * (wrap64 (2 * (wrap64 (a0 - 1)))))))) (wrap64 (2 * (wrap64 (a0 - 1)))))).bind fun t249 => (some (wrap64 (t249 * a1_2))))))
set_option maxHeartbeats 8000000 in
set_option maxRecDepth 100000 in
theorem spec_siFirst.calls (a0 : Int) (a1_0 : Int) (a1_1 : Bool) (a1_2 : Int) (a2 : Int) (r : Int) (w : World) (h : spec_siFirst.f a0 a1_0 a1_1 a1_2 a2 = some r) :
  Calls Tryz.prog 46 #[.int .i64 a0, .agg #[.int .i64 a1_0, .bool a1_1, .int .i64 a1_2], .int .i64 a2] w fun e w' => e = .returned (.int .i64 r) ∧ Below w.heap.size w w' := by
 have hu36 := Tryz.underlying36
 have HB := Aside0.mk (Below.refl w.heap.size w)
 unfold spec_siFirst.f at h
 have H := h
 clear h
 by_cases c4 : a0 = 1
 ·rw [if_pos c4] at H
  have c4b0 : (a0 == 1) = true := beq_iff_eq.mpr c4
  have c4b1 : (a0 != 1) = false := bne_eq_false_iff_eq.mpr c4
  clear c4
  obtain rfl := Option.some.inj H
  go_enter Tryz.func46, Tryz.ntmps46
  iterate 4 ((try go_wp2_with (first | ((with_reducible refine gate_dst (N := 4) rfl ?_); refine bx 4 36 #[.int .i64 a1_0, .bool a1_1, .int .i64 a1_2] ?_; intro gb247 hg w5 hbox hb; have BK247 := hbox; have GW247 := gs hg; have GE247 := gs hg; replace HB := bs hb; clear hb hbox hg))); (try go_quiet (fail)))
  go_ret
  exact ⟨rs, bw⟩
 ·rw [if_neg c4] at H
  have c4b0 : (a0 == 1) = false := beq_eq_false_iff_ne.mpr c4
  have c4b1 : (a0 != 1) = true := bne_iff_ne.mpr c4
  by_cases c6 : a1_1 = true
  ·subst c6
   rw [if_pos rfl] at H
   by_cases c7 : (wrap64 (2 * (wrap64 (a0 - 1)))) = 0
   ·rw [if_pos c7] at H
    exact absurd H (by simp)
   ·rw [if_neg c7] at H
    have c7b0 : ((wrap64 (2 * (wrap64 (a0 - 1)))) == 0) = false := beq_eq_false_iff_ne.mpr c7
    have c7b1 : ((wrap64 (2 * (wrap64 (a0 - 1)))) != 0) = true := bne_iff_ne.mpr c7
    replace H := Option.bind_eq_some_iff.mp H
    obtain ⟨t248, A80, H⟩ := H
    (try dsimp only at H)
    have A8 := Aside0.mk A80
    clear A80
    obtain rfl := Option.some.inj H
    go_enter Tryz.func46, Tryz.ntmps46
    iterate 4 ((try go_wp2_with (first | ((with_reducible refine gate_dst (N := 4) rfl ?_); refine bx 4 36 #[.int .i64 a1_0, .bool true, .int .i64 a1_2] ?_; intro gb247 hg w9 hbox hb; have BK247 := hbox; have GW247 := gs hg; have GE247 := gs hg; replace HB := bs hb; clear hb hbox hg; have hcz10_0 := bc BK247 0 (.int .i64 a1_0); have hcz10_1 := bc BK247 1 (.bool true); have hcz10_2 := bc BK247 2 (.int .i64 a1_2); have hfz10_0 := blk_frozen BK247.out 0; have hfz10_1 := blk_frozen BK247.out 1; have hfz10_2 := blk_frozen BK247.out 2) | (go_at_call 48; (with_reducible refine (spec_l1Least.calls (Int.tmod (wrap64 ((wrap64 (a2 - (wrap64 ((wrap64 (2 * (wrap64 (a0 - 1)))) - a1_0)))) + (wrap64 (2 * (wrap64 (2 * (wrap64 (a0 - 1)))))))) (wrap64 (2 * (wrap64 (a0 - 1))))) (Int.tmod (wrap64 ((wrap64 ((wrap64 ((wrap64 (2 * (wrap64 (a0 - 1)))) - a2)) - (wrap64 ((wrap64 (2 * (wrap64 (a0 - 1)))) - a1_0)))) + (wrap64 (2 * (wrap64 (2 * (wrap64 (a0 - 1)))))))) (wrap64 (2 * (wrap64 (a0 - 1))))) t248 _ A8.out).mono ?_); rintro e w' ⟨rfl, ⟨nd, rfl⟩⟩; (try exact zz)))); (try go_quiet (first | (go_at_call 48; (with_reducible refine (spec_l1Least.calls (Int.tmod (wrap64 ((wrap64 (a2 - (wrap64 ((wrap64 (2 * (wrap64 (a0 - 1)))) - a1_0)))) + (wrap64 (2 * (wrap64 (2 * (wrap64 (a0 - 1)))))))) (wrap64 (2 * (wrap64 (a0 - 1))))) (Int.tmod (wrap64 ((wrap64 ((wrap64 ((wrap64 (2 * (wrap64 (a0 - 1)))) - a2)) - (wrap64 ((wrap64 (2 * (wrap64 (a0 - 1)))) - a1_0)))) + (wrap64 (2 * (wrap64 (2 * (wrap64 (a0 - 1)))))))) (wrap64 (2 * (wrap64 (a0 - 1))))) t248 _ A8.out).mono ?_); rintro e w' ⟨rfl, ⟨nd, rfl⟩⟩; (try exact zz)))))
    go_ret
    exact ⟨rs, bw⟩
  ·replace c6 := Bool.eq_false_iff.mpr c6
   subst c6
   rw [if_neg (show ¬ (false = true) by decide)] at H
   by_cases c11 : (wrap64 (2 * (wrap64 (a0 - 1)))) = 0
   ·rw [if_pos c11] at H
    exact absurd H (by simp)
   ·rw [if_neg c11] at H
    have c11b0 : ((wrap64 (2 * (wrap64 (a0 - 1)))) == 0) = false := beq_eq_false_iff_ne.mpr c11
    have c11b1 : ((wrap64 (2 * (wrap64 (a0 - 1)))) != 0) = true := bne_iff_ne.mpr c11
    replace H := Option.bind_eq_some_iff.mp H
    obtain ⟨t249, A120, H⟩ := H
    (try dsimp only at H)
    have A12 := Aside0.mk A120
    clear A120
    obtain rfl := Option.some.inj H
    go_enter Tryz.func46, Tryz.ntmps46
    iterate 4 ((try go_wp2_with (first | ((with_reducible refine gate_dst (N := 4) rfl ?_); refine bx 4 36 #[.int .i64 a1_0, .bool false, .int .i64 a1_2] ?_; intro gb247 hg w13 hbox hb; have BK247 := hbox; have GW247 := gs hg; have GE247 := gs hg; replace HB := bs hb; clear hb hbox hg; have hcz14_0 := bc BK247 0 (.int .i64 a1_0); have hcz14_1 := bc BK247 1 (.bool false); have hcz14_2 := bc BK247 2 (.int .i64 a1_2); have hfz14_0 := blk_frozen BK247.out 0; have hfz14_1 := blk_frozen BK247.out 1; have hfz14_2 := blk_frozen BK247.out 2) | (go_at_call 48; (with_reducible refine (spec_l1Least.calls (Int.tmod (wrap64 ((wrap64 (a2 - a1_0)) + (wrap64 (2 * (wrap64 (2 * (wrap64 (a0 - 1)))))))) (wrap64 (2 * (wrap64 (a0 - 1))))) (Int.tmod (wrap64 ((wrap64 ((wrap64 ((wrap64 (2 * (wrap64 (a0 - 1)))) - a2)) - a1_0)) + (wrap64 (2 * (wrap64 (2 * (wrap64 (a0 - 1)))))))) (wrap64 (2 * (wrap64 (a0 - 1))))) t249 _ A12.out).mono ?_); rintro e w' ⟨rfl, ⟨nd, rfl⟩⟩; (try exact zz)))); (try go_quiet (first | (go_at_call 48; (with_reducible refine (spec_l1Least.calls (Int.tmod (wrap64 ((wrap64 (a2 - a1_0)) + (wrap64 (2 * (wrap64 (2 * (wrap64 (a0 - 1)))))))) (wrap64 (2 * (wrap64 (a0 - 1))))) (Int.tmod (wrap64 ((wrap64 ((wrap64 ((wrap64 (2 * (wrap64 (a0 - 1)))) - a2)) - a1_0)) + (wrap64 (2 * (wrap64 (2 * (wrap64 (a0 - 1)))))))) (wrap64 (2 * (wrap64 (a0 - 1))))) t249 _ A12.out).mono ?_); rintro e w' ⟨rfl, ⟨nd, rfl⟩⟩; (try exact zz)))))
    go_ret
    exact ⟨rs, bw⟩

end Go.Proofs.YtmhbcfdodcnjmaaGreatDoor.PFnSignalsReach
