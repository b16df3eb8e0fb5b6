-- Laid by xprint, a program of this session that runs over the kit's print.
import Derived.Test.YtafcfhlgenljgaaPFnExactTimeAllHearx0
import Derived.Test.YtafcfhlgenljgaaPFnExactTimeAllHearx2
namespace Go.Proofs.Ytafcfhlgenljgaa.PFnExactTimeAllHear
open Go.RowKit Go.Proofs.YtafcfhlgenljgaaW.PrintWords Go.Proofs.YtafcfhlgenljgaaW.PrintLast Go.Proofs.YtafcfhlgenljgaaW.PrintMore Go.Proofs.Ytafcfhlgenljgaa.Sq
attribute [local go_sem] max2_int min2_int max_two min_two max_three min_three max_four min_four   -- for this text's walks alone
set_option linter.unusedVariables false
set_option linter.unusedSimpArgs false

/-! ### impl_heard: function 43 -/
mutual
def impl_heard.l0 : Nat → Int → List Int → List (S27) → Int → Int → Option (List Int)
  | 0, _, _, _, _, _ => none
  | k + 1, x0, x5, x14, x15, x16 => if x16 < x15 then (if 0 ≤ x16 then (if x16 < (x14.length : Int) then ((impl_around.f x0).bind fun t152 => (impl_heard.l1 k x0 x5 x14 x15 x16 t152 0 ((rd_T27 x14 x16).f0) ((rd_T27 x14 x16).f1) ((rd_T27 x14 x16).f2))) else (none)) else (none)) else (some x5)
def impl_heard.l1 : Nat → Int → List Int → List (S27) → Int → Int → Int → Int → Int → Bool → Int → Option (List Int)
  | 0, _, _, _, _, _, _, _, _, _, _ => none
  | k + 1, x0, x5, x14, x15, x16, x21, x22, x152000, x152001, x152002 => if x22 < x21 then ((impl_Signal_place.f x152000 x152001 x152002 x0 (wrap64 (x22 * x152002))).bind fun t153 => (if 0 ≤ t153 then (if t153 < (x5.length : Int) then (if (rd x5 t153) < 0 then (impl_heard.l1 k x0 (x5.set (t153 : Int).toNat (wrap64 (x22 * x152002))) x14 x15 x16 x21 (wrap64 (x22 + 1)) x152000 x152001 x152002) else (if (wrap64 (x22 * x152002)) < (rd x5 t153) then (impl_heard.l1 k x0 (x5.set (t153 : Int).toNat (wrap64 (x22 * x152002))) x14 x15 x16 x21 (wrap64 (x22 + 1)) x152000 x152001 x152002) else (impl_heard.l1 k x0 x5 x14 x15 x16 x21 (wrap64 (x22 + 1)) x152000 x152001 x152002))) else (none)) else (none))) else (impl_heard.l0 k x0 x5 x14 x15 (wrap64 (x16 + 1)))
end
def impl_heard.f (k : Nat) (a0 : Int) (l1 : List (S27)) : Option (List Int) := (slices_Repeat_int_int.f (([(-1)] : List Int)) a0).bind fun t147 => (impl_heard.l0 k a0 t147 l1 (l1.length : Int) 0)
theorem impl_heard.mono_l : ∀ k, (∀ y0 y1 y2 y3 y4, LeO (impl_heard.l0 k y0 y1 y2 y3 y4) (impl_heard.l0 (k + 1) y0 y1 y2 y3 y4)) ∧ (∀ y0 y1 y2 y3 y4 y5 y6 y7 y8 y9, LeO (impl_heard.l1 k y0 y1 y2 y3 y4 y5 y6 y7 y8 y9) (impl_heard.l1 (k + 1) y0 y1 y2 y3 y4 y5 y6 y7 y8 y9))
  | 0 => ⟨fun _ _ _ _ _ r h => by simp [impl_heard.l0] at h, fun _ _ _ _ _ _ _ _ _ _ r h => by simp [impl_heard.l1] at h⟩
  | k + 1 => by
    obtain ⟨ih0, ih1⟩ := impl_heard.mono_l k
    refine ⟨?_, ?_⟩
    · intro y0 y1 y2 y3 y4
      unfold impl_heard.l0
      repeat' first
      | (with_reducible exact ih0 _ _ _ _ _)
      | (with_reducible exact ih1 _ _ _ _ _ _ _ _ _ _)
      | (with_reducible exact LeO.refl _)
      | (with_reducible exact LeO.none _)
      | (with_reducible refine LeO.ite ?_ ?_)
      | (with_reducible refine LeO.bind ?_ (fun _ => ?_))
      | exact ih0 _ _ _ _ _
      | exact ih1 _ _ _ _ _ _ _ _ _ _
      | exact LeO.none _
      | refine LeO.ite ?_ ?_
      | refine LeO.bind ?_ (fun _ => ?_)
    · intro y0 y1 y2 y3 y4 y5 y6 y7 y8 y9
      unfold impl_heard.l1
      repeat' first
      | (with_reducible exact ih0 _ _ _ _ _)
      | (with_reducible exact ih1 _ _ _ _ _ _ _ _ _ _)
      | (with_reducible exact LeO.refl _)
      | (with_reducible exact LeO.none _)
      | (with_reducible refine LeO.ite ?_ ?_)
      | (with_reducible refine LeO.bind ?_ (fun _ => ?_))
      | exact ih0 _ _ _ _ _
      | exact ih1 _ _ _ _ _ _ _ _ _ _
      | exact LeO.none _
      | refine LeO.ite ?_ ?_
      | refine LeO.bind ?_ (fun _ => ?_)
theorem impl_heard.mono : ∀ a0 a1 k, LeO (impl_heard.f k a0 a1) (impl_heard.f (k + 1) a0 a1) := by
  intro a0 a1 k
  obtain ⟨ih0, ih1⟩ := impl_heard.mono_l k
  unfold impl_heard.f
  repeat' first
      | (with_reducible exact ih0 _ _ _ _ _)
      | (with_reducible exact ih1 _ _ _ _ _ _ _ _ _ _)
      | (with_reducible exact LeO.refl _)
      | (with_reducible exact LeO.none _)
      | (with_reducible refine LeO.ite ?_ ?_)
      | (with_reducible refine LeO.bind ?_ (fun _ => ?_))
      | exact ih0 _ _ _ _ _
      | exact ih1 _ _ _ _ _ _ _ _ _ _
      | exact LeO.none _
      | refine LeO.ite ?_ ?_
      | refine LeO.bind ?_ (fun _ => ?_)
set_option maxHeartbeats 8000000 in
set_option maxRecDepth 100000 in
theorem impl_heard.calls (k : Nat) (a0 : Int) (A1 : Option Addr) (c1 : Nat) (l1 : List (S27)) (r : List Int) (w : World) (hr1 : Kd.C k27 w A1 l1.length l1) (hc1 : l1.length ≤ c1) (h : impl_heard.f k a0 l1 = some r) :
  Calls Try.prog 43 #[.int .i64 a0, .slice A1 l1.length c1] w fun e w' => ∃ v0_ : Value, e = .returned (v0_) ∧ Kd.R (Kd.int .i64) 3 w' w.heap.size (fun _ => True) v0_ r ∧ Below w.heap.size w w' := by
 have hu27 := Try.underlying27
 have HR1 := Aside0.mk hr1
 have HC1 := Aside0.mk hc1
 clear hr1 hc1
 have HB := Aside0.mk (Below.refl w.heap.size w)
 unfold impl_heard.f at h
 have H := h
 clear h
 obtain ⟨y144, hy144⟩ : ∃ y_ : List Int, y_ = (([(-1)] : List Int)) := ⟨_, rfl⟩
 replace H : ((slices_Repeat_int_int.f y144 a0).bind fun t147 => (impl_heard.l0 k a0 t147 l1 (l1.length : Int) 0)) = some r := by first | (rw [hy144]; with_reducible exact H) | (have H2_ := (Option.bind_some _ _).symm.trans H; rw [hy144]; with_reducible exact H2_) | (have H2_ := (Option.bind_some _ _).symm.trans H; with_reducible exact H2_) | with_reducible exact H | (rw [hy144]; exact H) | exact H
 have Ny144 := Aside0.mk hy144
 clear hy144
 replace H := Option.bind_eq_some_iff.mp H
 obtain ⟨t147, A30, H⟩ := H
 (try dsimp only at H)
 have A3 := Aside0.mk A30
 clear A30
 have H' := Aside0.mk H
 clear H
 go_enter Try.func43, Try.ntmps43
 go_wp2_with (first | ((with_reducible refine gate_dst (N := 11) rfl ?_); refine Kd.R_lit (Kd.int .i64) _ 3 ?hg (N := 11) ?hd (xs := ([(-1)] : List Int)) (inner := [.int .i64 (-1)]) (ok := fun _ => True) (okp := fun _ => True) ?hr ?hp (fun _ hk => hk) trivial (Below.refl _ _) (Nat.le_refl _) (by simp) ?_; (case hd => rfl); (case hg => rfl); (case hr => first | (go_simp; done) | (go_simp; rfl)); (case hp => exact (Reps.one (show Kd.M (Kd.int .i64) _ _ _ (-1) [.int .i64 (-1)] from rfl) (Reps.none _ _))); intro v145 w4 ho5 hb hg_ hnew_; clear hg_ hnew_; (first | rw [← Ny144.out] at ho5 | (simp only [Int.reduceToNat] at ho5; rw [← Ny144.out] at ho5)); have HO146 := Aside0.mk (Kd.R_lower ho5 (below_size bw)); replace HB := bs hb; clear hb ho5; obtain ⟨Ao6, co6, eo6⟩ := Kd.R_slice HO146.out; subst eo6) | ((with_reducible refine gate_callee (f := 54) rfl ?_); refine gl (some 13) Try.func54 #[.slice Ao6 y144.length co6, .int .i64 a0] ?_; (with_reducible refine (slices_Repeat_int_int.calls _ _ y144 a0 t147 _ ?side1 ?side2 A3.out).mono ?_); (case side1 => repeat (first | exact (Kd.R_reads' HO146.out).2.2 | (with_reducible refine Kd.C_alloc ?_ _) | (with_reducible refine Kd.C_drewN ?_ _) | (with_reducible refine Kd.C_drew ?_))); (case side2 => exact (Kd.R_reads' HO146.out).2.1); rintro e w7 ⟨v148, rfl, ho0, hb⟩; refine ⟨_, rfl, ?_⟩; have HO149 := Aside0.mk (Kd.R_lower (Kd.R_new' ho0 (Kd.R_lt (pr HO146))) (below_size bw)); replace HO146 := Aside0.mk (Kd.R_elder' (pr HO146) (Kd.R_base ho0) hb); replace HB := bs hb; (try clear hb); (try clear ho0)))
 go_loopg [16] k (fun kq v16 w' => ∃ (x5_1 : List Int) (x16_1 : Int), v16 = .int .i64 x16_1 ∧ Aside0 (impl_heard.l0 kq a0 x5_1 l1 (l1.length : Int) x16_1 = some r) ∧ Aside0 (kq ≤ k) ∧ Aside0 (Kd.R (Kd.int .i64) 3 w' w.heap.size (fun _ => True) v148 x5_1) ∧ Aside0 (Below w.heap.size w w'))
 case atStart => exact ⟨(t147), (0), (rs), H', ⟨Nat.le_refl _⟩, ⟨by (with_reducible repeat (first | apply Kd.R_alloc | apply Kd.R_drewN | apply Kd.R_drew)); exact Kd.R_mono HO149.out (fun _ hk => trivial)⟩, ⟨bw⟩⟩
 case round =>
  clear H'
  try clear c1
  try clear p2
  try clear c4
  try clear c5
  obtain ⟨x5_1, x16_1, rfl, HA, HK1, HO_5, HB⟩ := hrel
  cases gk with
  | zero => exact absurd HA.out (by simp [impl_heard.l0])
  | succ k1 =>
   have H := HA.out
   clear HA
   simp only [impl_heard.l0] at H
   by_cases c8 : x16_1 < (l1.length : Int)
   ·rw [if_pos c8] at H
    have c8b0 : decide (x16_1 < (l1.length : Int)) = true := decide_eq_true c8
    clear c8
    by_cases c9 : 0 ≤ x16_1
    ·rw [if_pos c9] at H
     have c9b0 : decide (0 ≤ x16_1) = true := decide_eq_true c9
     clear c9
     by_cases c10 : x16_1 < (l1.length : Int)
     ·rw [if_pos c10] at H
      have c10b0 : decide (x16_1 < (l1.length : Int)) = true := decide_eq_true c10
      clear c10
      replace H := Option.bind_eq_some_iff.mp H
      obtain ⟨t152, A110, H⟩ := H
      (try dsimp only at H)
      have A11 := Aside0.mk A110
      clear A110
      have H' := Aside0.mk H
      clear H
      have p150 : 0 ≤ (x16_1 : Int) := of_decide_eq_true (by first | (with_reducible assumption) | assumption)
      have q150 : x16_1 < (l1.length : Int) := of_decide_eq_true (by first | (with_reducible assumption) | assumption)
      obtain ⟨ad150, e150, hx150_0, hx150_1, hx150_2⟩ := at_T27 HR1.out x16_1 p150 q150
      cases e150
      replace hx150_0 := (HB.out.cell (World.block_lt_of_cell? w _ hx150_0)).trans hx150_0
      replace hx150_1 := (HB.out.cell (World.block_lt_of_cell? w _ hx150_1)).trans hx150_1
      replace hx150_2 := (HB.out.cell (World.block_lt_of_cell? w _ hx150_2)).trans hx150_2
      replace p150 := eq_true p150
      replace q150 := eq_true q150
      go_wp2_with (first | ((with_reducible refine gate_dst (N := 7) rfl ?_); refine bx 7 27 #[.int .i64 0, .bool false, .int .i64 0] ?_; intro gb151 hg w12 hbox hb; replace HO_5 := Aside0.mk (Kd.R_below (pr HO_5) hb); have BK151 := hbox; have GW151 := gs hg; have GE151 := gs hg; replace HB := bs hb; clear hb hbox hg; have hcz13_0 := bc BK151 0 (.int .i64 0); have hcz13_1 := bc BK151 1 (.bool false); have hcz13_2 := bc BK151 2 (.int .i64 0); have hfz13_0 := blk_frozen BK151.out 0; have hfz13_1 := blk_frozen BK151.out 1; have hfz13_2 := blk_frozen BK151.out 2) | ((with_reducible refine gate_callee (f := 48) rfl ?_); refine gl (some 21) Try.func48 #[.int .i64 a0] ?_; (with_reducible refine (impl_around.calls a0 t152 _ A11.out).mono ?_); rintro e w14 ⟨rfl, hb⟩; refine ⟨_, rfl, ?_⟩; replace HO_5 := Aside0.mk (Kd.R_below (by (with_reducible repeat (first | apply Kd.R_alloc | apply Kd.R_drewN | apply Kd.R_drew)); exact (Kd.R_mono (Kd.R_far (p := ⟨gb151, 2, none⟩) (Kd.R_far (p := ⟨gb151, 1, none⟩) (Kd.R_far (p := ⟨gb151, 0, none⟩) (Kd.R_types HO_5.out BK151.out (by decide)) (fun _ hk => hk.2) (.int .i64 ((rd_T27 l1 x16_1).f0))) (fun _ hk => hk.2) (.bool ((rd_T27 l1 x16_1).f1))) (fun _ hk => hk.2) (.int .i64 ((rd_T27 l1 x16_1).f2))) (fun _ h_ => h_.1))) hb); replace BK151 := Aside0.mk (blk_below (g := gb151) (o := .cells #[.int .i64 ((rd_T27 l1 x16_1).f0), .bool ((rd_T27 l1 x16_1).f1), .int .i64 ((rd_T27 l1 x16_1).f2)] 27 (0, 0)) (by (with_reducible repeat (first | refine blk_drewN ?_ _ | refine blk_drew ?_ | refine blk_alloc ?_ _)); refine blk_put (cs := #[.int .i64 ((rd_T27 l1 x16_1).f0), .bool ((rd_T27 l1 x16_1).f1), .int .i64 0]) ?_ 2 _ rfl; (with_reducible repeat (first | refine blk_drewN ?_ _ | refine blk_drew ?_ | refine blk_alloc ?_ _)); refine blk_put (cs := #[.int .i64 ((rd_T27 l1 x16_1).f0), .bool false, .int .i64 0]) ?_ 1 _ rfl; (with_reducible repeat (first | refine blk_drewN ?_ _ | refine blk_drew ?_ | refine blk_alloc ?_ _)); refine blk_put (cs := #[.int .i64 0, .bool false, .int .i64 0]) ?_ 0 _ rfl; (with_reducible repeat (first | refine blk_drewN ?_ _ | refine blk_drew ?_ | refine blk_alloc ?_ _)); exact BK151.out) hb); replace HB := bs hb; (try clear hb)))
      go_loopg [22] k1 (fun kq v22 w' => ∃ (x5_2 : List Int) (x22_2 : Int), v22 = .int .i64 x22_2 ∧ Aside0 (impl_heard.l1 kq a0 x5_2 l1 (l1.length : Int) x16_1 t152 x22_2 ((rd_T27 l1 x16_1).f0) ((rd_T27 l1 x16_1).f1) ((rd_T27 l1 x16_1).f2) = some r) ∧ Aside0 (kq ≤ k1) ∧ Aside0 (Kd.R (Kd.int .i64) 3 w' w.heap.size (fun _ => True) v148 x5_2) ∧ Aside0 (w'.heap[gb151]? = some (.cells #[.int .i64 ((rd_T27 l1 x16_1).f0), .bool ((rd_T27 l1 x16_1).f1), .int .i64 ((rd_T27 l1 x16_1).f2)] 27 (0, 0))) ∧ Aside0 (Below w.heap.size w w'))
      case atStart => exact ⟨(x5_1), (0), (rs), H', ⟨Nat.le_refl _⟩, ⟨pr HO_5⟩, ⟨pk BK151⟩, ⟨bw⟩⟩
      case round =>
       clear H'
       try clear c1
       try clear p1
       try clear q1
       try clear hx1
       try clear p2
       try clear c4
       try clear c5
       try clear c8
       try clear c8b0
       try clear c9
       try clear c9b0
       try clear c10
       try clear c10b0
       try clear hcz13_0
       try clear hcz13_1
       try clear hcz13_2
       try clear hfz13_0
       try clear hfz13_1
       try clear hfz13_2
       try clear hx150_0
       try clear hx150_1
       try clear hx150_2
       try clear p150
       try clear p2
       try clear q150
       obtain ⟨x5_2, x22_2, rfl, HA, HK2, HO_5, BK151, HB⟩ := hrel
       cases gk with
       | zero => exact absurd HA.out (by simp [impl_heard.l1])
       | succ k2 =>
        have H := HA.out
        clear HA
        simp only [impl_heard.l1] at H
        by_cases c15 : x22_2 < t152
        ·rw [if_pos c15] at H
         have c15b0 : decide (x22_2 < t152) = true := decide_eq_true c15
         clear c15
         replace H := Option.bind_eq_some_iff.mp H
         obtain ⟨t153, A160, H⟩ := H
         (try dsimp only at H)
         have A16 := Aside0.mk A160
         clear A160
         by_cases c17 : 0 ≤ t153
         ·rw [if_pos c17] at H
          have c17b0 : decide (0 ≤ t153) = true := decide_eq_true c17
          clear c17
          by_cases c18 : t153 < (x5_2.length : Int)
          ·rw [if_pos c18] at H
           have c18b0 : decide (t153 < (x5_2.length : Int)) = true := decide_eq_true c18
           clear c18
           by_cases c19 : (rd x5_2 t153) < 0
           ·rw [if_pos c19] at H
            have c19b0 : decide ((rd x5_2 t153) < 0) = true := decide_eq_true c19
            clear c19
            obtain ⟨y155, hy155⟩ : ∃ y_ : List Int, y_ = (x5_2.set (t153 : Int).toNat (wrap64 (x22_2 * ((rd_T27 l1 x16_1).f2)))) := ⟨_, rfl⟩
            replace H : (impl_heard.l1 k2 a0 y155 l1 (l1.length : Int) x16_1 t152 (wrap64 (x22_2 + 1)) ((rd_T27 l1 x16_1).f0) ((rd_T27 l1 x16_1).f1) ((rd_T27 l1 x16_1).f2)) = some r := by first | (rw [hy155]; with_reducible exact H) | (have H2_ := (Option.bind_some _ _).symm.trans H; rw [hy155]; with_reducible exact H2_) | (have H2_ := (Option.bind_some _ _).symm.trans H; with_reducible exact H2_) | with_reducible exact H | (rw [hy155]; exact H) | exact H
            have Ny155 := Aside0.mk hy155
            clear hy155
            have H' := Aside0.mk H
            clear H
            have hcz21_0 : wr.cell? ⟨gb151, 0, none⟩ = some (.int .i64 ((rd_T27 l1 x16_1).f0)) := ec BK151
            have hcz21_1 : wr.cell? ⟨gb151, 1, none⟩ = some (.bool ((rd_T27 l1 x16_1).f1)) := ec BK151
            have hcz21_2 : wr.cell? ⟨gb151, 2, none⟩ = some (.int .i64 ((rd_T27 l1 x16_1).f2)) := ec BK151
            have hfz21_0 := blk_frozen BK151.out 0
            have hfz21_1 := blk_frozen BK151.out 1
            have hfz21_2 := blk_frozen BK151.out 2
            go_wp2_with (first | ((with_reducible refine gate_callee (f := 31) rfl ?_); refine gl (some 32) Try.func31 #[.agg #[.int .i64 ((rd_T27 l1 x16_1).f0), .bool ((rd_T27 l1 x16_1).f1), .int .i64 ((rd_T27 l1 x16_1).f2)], .int .i64 a0, .int .i64 (wrap64 (x22_2 * ((rd_T27 l1 x16_1).f2)))] ?_; (with_reducible refine (impl_Signal_place.calls ((rd_T27 l1 x16_1).f0) ((rd_T27 l1 x16_1).f1) ((rd_T27 l1 x16_1).f2) a0 (wrap64 (x22_2 * ((rd_T27 l1 x16_1).f2))) t153 _ A16.out).mono ?_); rintro e w22 ⟨rfl, hb⟩; refine ⟨_, rfl, ?_⟩; replace HO_5 := Aside0.mk (Kd.R_below (pr HO_5) hb); replace BK151 := nk BK151 hb; replace HB := bs hb; (try clear hb); obtain ⟨Ao23, co23, eo23⟩ := Kd.R_slice HO_5.out; subst eo23; have p154 : 0 ≤ (t153 : Int) := of_decide_eq_true (by first | (with_reducible assumption) | assumption); have q154 : t153 < (x5_2.length : Int) := of_decide_eq_true (by first | (with_reducible assumption) | assumption); obtain ⟨ad154, e154, hx154_0⟩ := Kd.at_int (Kd.R_reads' HO_5.out).2.2 t153 p154 q154; cases e154; replace p154 := eq_true p154; replace q154 := eq_true q154; have p20 : 0 ≤ (t153 : Int) := of_decide_eq_true (by first | (with_reducible assumption) | assumption); have q20 : (t153 : Int) < ((x5_2.length : Int) : Int) := of_decide_eq_true (by first | (with_reducible assumption) | assumption); obtain ⟨go20, co20, eo20, gb20, gl20, cl20, HG20⟩ := Kd.R_form HO_5.out (by omega); (first | cases eo20 | (injection eo20 with ea_ en_ ec_; (first | subst ea_ | (injection ea_ with ea_; subst ea_)); subst ec_; clear en_)); have GB20 := Aside0.mk gb20; have GG20 := Aside0.mk HG20; clear gb20 gl20 HG20; (first | simp only [add_plain] at hx154_0 | skip); obtain ⟨hx20_0, hf20_0⟩ := Kd.R_celln 0 HO_5.out (t153 : Int) p20 q20; replace p20 := eq_true p20; replace q20 := eq_true q20; obtain ⟨hy24_, hz24_⟩ := Kd.R_celln 0 HO_5.out (t153 : Int) (of_decide_eq_true (by first | (with_reducible assumption) | assumption)) (of_decide_eq_true (by first | (with_reducible assumption) | assumption)); have HP24 := Kd.R_putg HO_5.out (t153 : Int) (wrap64 (x22_2 * ((rd_T27 l1 x16_1).f2)))) | ((with_reducible refine gate_store (t := 3) (p := 49) rfl ?_); refine store_event (t := 3) (p := 49) (v := ?vo_w25) (w1 := (w22.setCell ⟨go20, (t153 : Int).toNat, none⟩ (.int .i64 (wrap64 (x22_2 * ((rd_T27 l1 x16_1).f2)))))) ?hg ?ho ?hn ?hr ?_; (case ho => rfl); (case hg => rfl); (case hn => rfl); (case hr => first | (go_simp; done) | (go_simp; rfl)); intro w25 hw; have hg : w22.grownBy w25 (some go20) := (by rw [hw]; exact HP24.2); have hp_ : Kd.R (Kd.int .i64) 3 w25 w.heap.size (fun _ => True) (.slice (some ⟨go20, 0, none⟩) x5_2.length co23) y155 := (by rw [hw, Ny155.out]; exact HP24.1); clear HP24; replace BK151 := Aside0.mk (blk_grown (pk BK151) hg (Kd.R_ne HO_5.out BK151.out (by decide))); replace HO_5 := Aside0.mk (hp_); replace HB := Aside0.mk ((by rw [hw]; exact below_set (HB.out) GB20.out : Below w.heap.size w w25)); clear hg hw hp_))
            go_roundg k2
            case measure => have := HK1.out; have := HK2.out; omega
            case rel => exact ⟨(y155), (wrap64 (x22_2 + 1)), (rs), H', ⟨by have := HK1.out; have := HK2.out; omega⟩, ⟨pr HO_5⟩, ⟨pk BK151⟩, ⟨bw⟩⟩
           ·rw [if_neg c19] at H
            have c19b0 : decide ((rd x5_2 t153) < 0) = false := decide_eq_false c19
            clear c19
            by_cases c26 : (wrap64 (x22_2 * ((rd_T27 l1 x16_1).f2))) < (rd x5_2 t153)
            ·rw [if_pos c26] at H
             have c26b0 : decide ((wrap64 (x22_2 * ((rd_T27 l1 x16_1).f2))) < (rd x5_2 t153)) = true := decide_eq_true c26
             clear c26
             obtain ⟨y157, hy157⟩ : ∃ y_ : List Int, y_ = (x5_2.set (t153 : Int).toNat (wrap64 (x22_2 * ((rd_T27 l1 x16_1).f2)))) := ⟨_, rfl⟩
             replace H : (impl_heard.l1 k2 a0 y157 l1 (l1.length : Int) x16_1 t152 (wrap64 (x22_2 + 1)) ((rd_T27 l1 x16_1).f0) ((rd_T27 l1 x16_1).f1) ((rd_T27 l1 x16_1).f2)) = some r := by first | (rw [hy157]; with_reducible exact H) | (have H2_ := (Option.bind_some _ _).symm.trans H; rw [hy157]; with_reducible exact H2_) | (have H2_ := (Option.bind_some _ _).symm.trans H; with_reducible exact H2_) | with_reducible exact H | (rw [hy157]; exact H) | exact H
             have Ny157 := Aside0.mk hy157
             clear hy157
             have H' := Aside0.mk H
             clear H
             have hcz28_0 : wr.cell? ⟨gb151, 0, none⟩ = some (.int .i64 ((rd_T27 l1 x16_1).f0)) := ec BK151
             have hcz28_1 : wr.cell? ⟨gb151, 1, none⟩ = some (.bool ((rd_T27 l1 x16_1).f1)) := ec BK151
             have hcz28_2 : wr.cell? ⟨gb151, 2, none⟩ = some (.int .i64 ((rd_T27 l1 x16_1).f2)) := ec BK151
             have hfz28_0 := blk_frozen BK151.out 0
             have hfz28_1 := blk_frozen BK151.out 1
             have hfz28_2 := blk_frozen BK151.out 2
             go_wp2_with (first | ((with_reducible refine gate_callee (f := 31) rfl ?_); refine gl (some 32) Try.func31 #[.agg #[.int .i64 ((rd_T27 l1 x16_1).f0), .bool ((rd_T27 l1 x16_1).f1), .int .i64 ((rd_T27 l1 x16_1).f2)], .int .i64 a0, .int .i64 (wrap64 (x22_2 * ((rd_T27 l1 x16_1).f2)))] ?_; (with_reducible refine (impl_Signal_place.calls ((rd_T27 l1 x16_1).f0) ((rd_T27 l1 x16_1).f1) ((rd_T27 l1 x16_1).f2) a0 (wrap64 (x22_2 * ((rd_T27 l1 x16_1).f2))) t153 _ A16.out).mono ?_); rintro e w29 ⟨rfl, hb⟩; refine ⟨_, rfl, ?_⟩; replace HO_5 := Aside0.mk (Kd.R_below (pr HO_5) hb); replace BK151 := nk BK151 hb; replace HB := bs hb; (try clear hb); obtain ⟨Ao30, co30, eo30⟩ := Kd.R_slice HO_5.out; subst eo30; have p154 : 0 ≤ (t153 : Int) := of_decide_eq_true (by first | (with_reducible assumption) | assumption); have q154 : t153 < (x5_2.length : Int) := of_decide_eq_true (by first | (with_reducible assumption) | assumption); obtain ⟨ad154, e154, hx154_0⟩ := Kd.at_int (Kd.R_reads' HO_5.out).2.2 t153 p154 q154; cases e154; replace p154 := eq_true p154; replace q154 := eq_true q154; have p156 : 0 ≤ (t153 : Int) := of_decide_eq_true (by first | (with_reducible assumption) | assumption); have q156 : t153 < (x5_2.length : Int) := of_decide_eq_true (by first | (with_reducible assumption) | assumption); obtain ⟨ad156, e156, hx156_0⟩ := Kd.at_int (Kd.R_reads' HO_5.out).2.2 t153 p156 q156; obtain rfl : ad154 = ad156 := (by injection e156); replace p156 := eq_true p156; replace q156 := eq_true q156; have p27 : 0 ≤ (t153 : Int) := of_decide_eq_true (by first | (with_reducible assumption) | assumption); have q27 : (t153 : Int) < ((x5_2.length : Int) : Int) := of_decide_eq_true (by first | (with_reducible assumption) | assumption); obtain ⟨go27, co27, eo27, gb27, gl27, cl27, HG27⟩ := Kd.R_form HO_5.out (by omega); (first | cases eo27 | (injection eo27 with ea_ en_ ec_; (first | subst ea_ | (injection ea_ with ea_; subst ea_)); subst ec_; clear en_)); have GB27 := Aside0.mk gb27; have GG27 := Aside0.mk HG27; clear gb27 gl27 HG27; (first | simp only [add_plain] at hx154_0 | skip); (first | simp only [add_plain] at hx156_0 | skip); obtain ⟨hx27_0, hf27_0⟩ := Kd.R_celln 0 HO_5.out (t153 : Int) p27 q27; replace p27 := eq_true p27; replace q27 := eq_true q27; obtain ⟨hy31_, hz31_⟩ := Kd.R_celln 0 HO_5.out (t153 : Int) (of_decide_eq_true (by first | (with_reducible assumption) | assumption)) (of_decide_eq_true (by first | (with_reducible assumption) | assumption)); have HP31 := Kd.R_putg HO_5.out (t153 : Int) (wrap64 (x22_2 * ((rd_T27 l1 x16_1).f2)))) | ((with_reducible refine gate_store (t := 3) (p := 49) rfl ?_); refine store_event (t := 3) (p := 49) (v := ?vo_w32) (w1 := (w29.setCell ⟨go27, (t153 : Int).toNat, none⟩ (.int .i64 (wrap64 (x22_2 * ((rd_T27 l1 x16_1).f2)))))) ?hg ?ho ?hn ?hr ?_; (case ho => rfl); (case hg => rfl); (case hn => rfl); (case hr => first | (go_simp; done) | (go_simp; rfl)); intro w32 hw; have hg : w29.grownBy w32 (some go27) := (by rw [hw]; exact HP31.2); have hp_ : Kd.R (Kd.int .i64) 3 w32 w.heap.size (fun _ => True) (.slice (some ⟨go27, 0, none⟩) x5_2.length co30) y157 := (by rw [hw, Ny157.out]; exact HP31.1); clear HP31; replace BK151 := Aside0.mk (blk_grown (pk BK151) hg (Kd.R_ne HO_5.out BK151.out (by decide))); replace HO_5 := Aside0.mk (hp_); replace HB := Aside0.mk ((by rw [hw]; exact below_set (HB.out) GB27.out : Below w.heap.size w w32)); clear hg hw hp_))
             go_roundg k2
             case measure => have := HK1.out; have := HK2.out; omega
             case rel => exact ⟨(y157), (wrap64 (x22_2 + 1)), (rs), H', ⟨by have := HK1.out; have := HK2.out; omega⟩, ⟨pr HO_5⟩, ⟨pk BK151⟩, ⟨bw⟩⟩
            ·rw [if_neg c26] at H
             have c26b0 : decide ((wrap64 (x22_2 * ((rd_T27 l1 x16_1).f2))) < (rd x5_2 t153)) = false := decide_eq_false c26
             clear c26
             have H' := Aside0.mk H
             clear H
             have hcz33_0 : wr.cell? ⟨gb151, 0, none⟩ = some (.int .i64 ((rd_T27 l1 x16_1).f0)) := ec BK151
             have hcz33_1 : wr.cell? ⟨gb151, 1, none⟩ = some (.bool ((rd_T27 l1 x16_1).f1)) := ec BK151
             have hcz33_2 : wr.cell? ⟨gb151, 2, none⟩ = some (.int .i64 ((rd_T27 l1 x16_1).f2)) := ec BK151
             have hfz33_0 := blk_frozen BK151.out 0
             have hfz33_1 := blk_frozen BK151.out 1
             have hfz33_2 := blk_frozen BK151.out 2
             go_wp2_with (first | ((with_reducible refine gate_callee (f := 31) rfl ?_); refine gl (some 32) Try.func31 #[.agg #[.int .i64 ((rd_T27 l1 x16_1).f0), .bool ((rd_T27 l1 x16_1).f1), .int .i64 ((rd_T27 l1 x16_1).f2)], .int .i64 a0, .int .i64 (wrap64 (x22_2 * ((rd_T27 l1 x16_1).f2)))] ?_; (with_reducible refine (impl_Signal_place.calls ((rd_T27 l1 x16_1).f0) ((rd_T27 l1 x16_1).f1) ((rd_T27 l1 x16_1).f2) a0 (wrap64 (x22_2 * ((rd_T27 l1 x16_1).f2))) t153 _ A16.out).mono ?_); rintro e w34 ⟨rfl, hb⟩; refine ⟨_, rfl, ?_⟩; replace HO_5 := Aside0.mk (Kd.R_below (pr HO_5) hb); replace BK151 := nk BK151 hb; replace HB := bs hb; (try clear hb); obtain ⟨Ao35, co35, eo35⟩ := Kd.R_slice HO_5.out; subst eo35; have p154 : 0 ≤ (t153 : Int) := of_decide_eq_true (by first | (with_reducible assumption) | assumption); have q154 : t153 < (x5_2.length : Int) := of_decide_eq_true (by first | (with_reducible assumption) | assumption); obtain ⟨ad154, e154, hx154_0⟩ := Kd.at_int (Kd.R_reads' HO_5.out).2.2 t153 p154 q154; cases e154; replace p154 := eq_true p154; replace q154 := eq_true q154; have p156 : 0 ≤ (t153 : Int) := of_decide_eq_true (by first | (with_reducible assumption) | assumption); have q156 : t153 < (x5_2.length : Int) := of_decide_eq_true (by first | (with_reducible assumption) | assumption); obtain ⟨ad156, e156, hx156_0⟩ := Kd.at_int (Kd.R_reads' HO_5.out).2.2 t153 p156 q156; obtain rfl : ad154 = ad156 := (by injection e156); replace p156 := eq_true p156; replace q156 := eq_true q156))
             go_roundg k2
             case measure => have := HK1.out; have := HK2.out; omega
             case rel => exact ⟨(x5_2), (wrap64 (x22_2 + 1)), (rs), H', ⟨by have := HK1.out; have := HK2.out; omega⟩, ⟨pr HO_5⟩, ⟨pk BK151⟩, ⟨bw⟩⟩
          ·rw [if_neg c18] at H
           exact absurd H (by simp)
         ·rw [if_neg c17] at H
          exact absurd H (by simp)
        ·rw [if_neg c15] at H
         have c15b0 : decide (x22_2 < t152) = false := decide_eq_false c15
         clear c15
         have H' := Aside0.mk H
         clear H
         go_wp2
         go_roundg k2
         case measure => have := HK1.out; have := HK2.out; omega
         case rel => exact ⟨(x5_2), (wrap64 (x16_1 + 1)), (rs), H', ⟨by have := HK1.out; have := HK2.out; omega⟩, ⟨pr HO_5⟩, ⟨bw⟩⟩
     ·rw [if_neg c10] at H
      exact absurd H (by simp)
    ·rw [if_neg c9] at H
     exact absurd H (by simp)
   ·rw [if_neg c8] at H
    have c8b0 : decide (x16_1 < (l1.length : Int)) = false := decide_eq_false c8
    clear c8
    obtain rfl := Option.some.inj H
    go_wp2
    go_ret
    exact ⟨_, rs, pr HO_5, bw⟩

/-! ### impl_TimeAllHear: function 19 -/
def impl_TimeAllHear.f (k : Nat) (a0 : Int) (l1 : List (S27)) : Option (Int × Bool) := (impl_areSignals.f k a0 l1).bind fun t158 => (if t158 = true then ((impl_heard.f k a0 l1).bind fun t159 => ((slices_Max_int_int.f k t159).bind fun t162 => (some (t162, true)))) else (some (0, false)))
theorem impl_TimeAllHear.mono : ∀ a0 a1 k, LeO (impl_TimeAllHear.f k a0 a1) (impl_TimeAllHear.f (k + 1) a0 a1) := by
  intro a0 a1 k
  unfold impl_TimeAllHear.f
  repeat' first
      | (with_reducible exact impl_areSignals.mono _ _ _)
      | (with_reducible exact impl_heard.mono _ _ _)
      | (with_reducible exact slices_Max_int_int.mono _ _)
      | (with_reducible exact LeO.refl _)
      | (with_reducible exact LeO.none _)
      | (with_reducible refine LeO.ite ?_ ?_)
      | (with_reducible refine LeO.bind ?_ (fun _ => ?_))
      | exact impl_areSignals.mono _ _ _
      | exact impl_heard.mono _ _ _
      | exact slices_Max_int_int.mono _ _
      | exact LeO.none _
      | refine LeO.ite ?_ ?_
      | refine LeO.bind ?_ (fun _ => ?_)
set_option maxHeartbeats 8000000 in
set_option maxRecDepth 100000 in
theorem impl_TimeAllHear.calls (k : Nat) (a0 : Int) (A1 : Option Addr) (c1 : Nat) (l1 : List (S27)) (r1 : Int) (r2 : Bool) (w : World) (hr1 : Kd.C k27 w A1 l1.length l1) (hc1 : l1.length ≤ c1) (h : impl_TimeAllHear.f k a0 l1 = some (r1, r2)) :
  Calls Try.prog 19 #[.int .i64 a0, .slice A1 l1.length c1] w fun e w' => e = .returned (.tuple #[.int .i64 r1, .bool r2]) ∧ Below w.heap.size w w' := by
 have HR1 := Aside0.mk hr1
 have HC1 := Aside0.mk hc1
 clear hr1 hc1
 have HB := Aside0.mk (Below.refl w.heap.size w)
 unfold impl_TimeAllHear.f at h
 have H := h
 clear h
 replace H := Option.bind_eq_some_iff.mp H
 obtain ⟨t158, A30, H⟩ := H
 (try dsimp only at H)
 have A3 := Aside0.mk A30
 clear A30
 by_cases c4 : t158 = true
 ·subst c4
  rw [if_pos rfl] at H
  replace H := Option.bind_eq_some_iff.mp H
  obtain ⟨t159, A50, H⟩ := H
  (try dsimp only at H)
  have A5 := Aside0.mk A50
  clear A50
  replace H := Option.bind_eq_some_iff.mp H
  obtain ⟨t162, A60, H⟩ := H
  (try dsimp only at H)
  have A6 := Aside0.mk A60
  clear A60
  simp only [Option.some.injEq, Prod.mk.injEq] at H
  obtain ⟨rfl, rfl⟩ := H
  go_enter Try.func19, Try.ntmps19
  go_wp2_with (first | ((with_reducible refine gate_callee (f := 41) rfl ?_); refine gl (some 8) Try.func41 #[.int .i64 a0, .slice A1 l1.length c1] ?_; (with_reducible refine (impl_areSignals.calls k a0 _ _ l1 true _ ?side1 ?side2 A3.out).mono ?_); (case side1 => repeat (first | exact HR1.out | (with_reducible refine Kd.C_alloc ?_ _) | (with_reducible refine Kd.C_drewN ?_ _) | (with_reducible refine Kd.C_drew ?_))); (case side2 => exact HC1.out); rintro e w7 ⟨rfl, hb⟩; refine ⟨_, rfl, ?_⟩; replace HB := bs hb; (try clear hb)) | ((with_reducible refine gate_callee (f := 43) rfl ?_); refine gl (some 12) Try.func43 #[.int .i64 a0, .slice A1 l1.length c1] ?_; (with_reducible refine (impl_heard.calls k a0 _ _ l1 t159 _ ?side1 ?side2 A5.out).mono ?_); (case side1 => repeat (first | exact (Kd.C_below HR1.out HB.out) | (with_reducible refine Kd.C_alloc ?_ _) | (with_reducible refine Kd.C_drewN ?_ _) | (with_reducible refine Kd.C_drew ?_))); (case side2 => exact HC1.out); rintro e w8 ⟨v160, rfl, ho0, hb⟩; refine ⟨_, rfl, ?_⟩; have HO161 := Aside0.mk (Kd.R_lower ho0 (below_size bw)); replace HB := bs hb; (try clear hb); (try clear ho0); obtain ⟨Ao9, co9, eo9⟩ := Kd.R_slice HO161.out; subst eo9) | ((with_reducible refine gate_callee (f := 42) rfl ?_); refine gl (some 13) Try.func42 #[.slice Ao9 t159.length co9] ?_; (with_reducible refine (slices_Max_int_int.calls k _ _ t159 t162 _ ?side1 ?side2 A6.out).mono ?_); (case side1 => repeat (first | exact (Kd.R_reads' HO161.out).2.2 | (with_reducible refine Kd.C_alloc ?_ _) | (with_reducible refine Kd.C_drewN ?_ _) | (with_reducible refine Kd.C_drew ?_))); (case side2 => exact (Kd.R_reads' HO161.out).2.1); rintro e w10 ⟨rfl, hb⟩; refine ⟨_, rfl, ?_⟩; replace HO161 := Aside0.mk (Kd.R_below (pr HO161) hb); replace HB := bs hb; (try clear hb)))
  go_ret2
  exact ⟨rs, bw⟩
 ·replace c4 := Bool.eq_false_iff.mpr c4
  subst c4
  rw [if_neg (show ¬ (false = true) by decide)] at H
  simp only [Option.some.injEq, Prod.mk.injEq] at H
  obtain ⟨rfl, rfl⟩ := H
  go_enter Try.func19, Try.ntmps19
  go_wp2_with (first | ((with_reducible refine gate_callee (f := 41) rfl ?_); refine gl (some 8) Try.func41 #[.int .i64 a0, .slice A1 l1.length c1] ?_; (with_reducible refine (impl_areSignals.calls k a0 _ _ l1 false _ ?side1 ?side2 A3.out).mono ?_); (case side1 => repeat (first | exact HR1.out | (with_reducible refine Kd.C_alloc ?_ _) | (with_reducible refine Kd.C_drewN ?_ _) | (with_reducible refine Kd.C_drew ?_))); (case side2 => exact HC1.out); rintro e w11 ⟨rfl, hb⟩; refine ⟨_, rfl, ?_⟩; replace HB := bs hb; (try clear hb)))
  go_ret2
  exact ⟨rs, bw⟩

/-! ### laws_eqSignal: function 44 -/
def laws_eqSignal.f (a0_0 : Int) (a0_1 : Bool) (a0_2 : Int) (a1_0 : Int) (a1_1 : Bool) (a1_2 : Int) : Option (Bool) := if a0_0 = a1_0 then (if (a0_1 != a1_1) = true then (some false) else (if a0_2 = a1_2 then (some true) else (some false))) else (some false)
set_option maxHeartbeats 8000000 in
set_option maxRecDepth 100000 in
theorem laws_eqSignal.calls (a0_0 : Int) (a0_1 : Bool) (a0_2 : Int) (a1_0 : Int) (a1_1 : Bool) (a1_2 : Int) (r : Bool) (w : World) (h : laws_eqSignal.f a0_0 a0_1 a0_2 a1_0 a1_1 a1_2 = some r) :
  Calls Try.prog 44 #[.agg #[.int .i64 a0_0, .bool a0_1, .int .i64 a0_2], .agg #[.int .i64 a1_0, .bool a1_1, .int .i64 a1_2]] w fun e w' => e = .returned (.bool r) ∧ Below w.heap.size w w' := by
 have hu27 := Try.underlying27
 have HB := Aside0.mk (Below.refl w.heap.size w)
 unfold laws_eqSignal.f at h
 have H := h
 clear h
 by_cases c3 : a0_0 = a1_0
 ·rw [if_pos c3] at H
  have c3b0 : (a0_0 == a1_0) = true := beq_iff_eq.mpr c3
  have c3b1 : (a0_0 != a1_0) = false := bne_eq_false_iff_eq.mpr c3
  clear c3
  by_cases c4 : (a0_1 != a1_1) = true
  ·rw [if_pos c4] at H
   have c4b0 : (a0_1 != a1_1) = true := c4
   (try (have c4b1 : decide (a0_1 = a1_1) = false := by simpa using c4))
   (try (have c4b2 : (a0_1 == a1_1) = false := by simpa using c4))
   (try (have c4b3 : ¬ (a0_1 = a1_1) := by simpa using c4))
   clear c4
   obtain rfl := Option.some.inj H
   go_enter Try.func44, Try.ntmps44
   go_wp2_with (first | ((with_reducible refine gate_dst (N := 2) rfl ?_); refine bx 2 27 #[.int .i64 a0_0, .bool a0_1, .int .i64 a0_2] ?_; intro gb163 hg w5 hbox hb; have BK163 := hbox; have GW163 := gs hg; have GE163 := gs hg; replace HB := bs hb; clear hb hbox hg) | ((with_reducible refine gate_dst (N := 3) rfl ?_); refine bx 3 27 #[.int .i64 a1_0, .bool a1_1, .int .i64 a1_2] ?_; intro gb164 hg w6 hbox hb; have BK164 := hbox; have GW164 := gs hg; have GE164 := gs hg; replace HB := bs hb; have NB163_164 := nl BK163 hg; have NB164_163 := ng BK163 hg; replace BK163 := nk BK163 hb; clear hb hbox hg; have hnb7 := NB163_164.out; have hnc7 := NB164_163.out; have hcz8_0 := bc BK163 0 (.int .i64 a0_0); have hcz8_1 := bc BK163 1 (.bool a0_1); have hcz8_2 := bc BK163 2 (.int .i64 a0_2); have hfz8_0 := blk_frozen BK163.out 0; have hfz8_1 := blk_frozen BK163.out 1; have hfz8_2 := blk_frozen BK163.out 2; have hcz9_0 := bc BK164 0 (.int .i64 a1_0); have hcz9_1 := bc BK164 1 (.bool a1_1); have hcz9_2 := bc BK164 2 (.int .i64 a1_2); have hfz9_0 := blk_frozen BK164.out 0; have hfz9_1 := blk_frozen BK164.out 1; have hfz9_2 := blk_frozen BK164.out 2))
   go_ret
   exact ⟨rs, bw⟩
  ·rw [if_neg c4] at H
   have c4b0 : (a0_1 != a1_1) = false := by simpa using c4
   (try (have c4b1 : decide (a0_1 = a1_1) = true := by simpa using c4))
   (try (have c4b2 : (a0_1 == a1_1) = true := by simpa using c4))
   clear c4
   by_cases c10 : a0_2 = a1_2
   ·rw [if_pos c10] at H
    have c10b0 : (a0_2 == a1_2) = true := beq_iff_eq.mpr c10
    have c10b1 : (a0_2 != a1_2) = false := bne_eq_false_iff_eq.mpr c10
    clear c10
    obtain rfl := Option.some.inj H
    go_enter Try.func44, Try.ntmps44
    go_wp2_with (first | ((with_reducible refine gate_dst (N := 2) rfl ?_); refine bx 2 27 #[.int .i64 a0_0, .bool a0_1, .int .i64 a0_2] ?_; intro gb163 hg w11 hbox hb; have BK163 := hbox; have GW163 := gs hg; have GE163 := gs hg; replace HB := bs hb; clear hb hbox hg) | ((with_reducible refine gate_dst (N := 3) rfl ?_); refine bx 3 27 #[.int .i64 a1_0, .bool a1_1, .int .i64 a1_2] ?_; intro gb164 hg w12 hbox hb; have BK164 := hbox; have GW164 := gs hg; have GE164 := gs hg; replace HB := bs hb; have NB163_164 := nl BK163 hg; have NB164_163 := ng BK163 hg; replace BK163 := nk BK163 hb; clear hb hbox hg; have hnb13 := NB163_164.out; have hnc13 := NB164_163.out; have hcz14_0 := bc BK163 0 (.int .i64 a0_0); have hcz14_1 := bc BK163 1 (.bool a0_1); have hcz14_2 := bc BK163 2 (.int .i64 a0_2); have hfz14_0 := blk_frozen BK163.out 0; have hfz14_1 := blk_frozen BK163.out 1; have hfz14_2 := blk_frozen BK163.out 2; have hcz15_0 := bc BK164 0 (.int .i64 a1_0); have hcz15_1 := bc BK164 1 (.bool a1_1); have hcz15_2 := bc BK164 2 (.int .i64 a1_2); have hfz15_0 := blk_frozen BK164.out 0; have hfz15_1 := blk_frozen BK164.out 1; have hfz15_2 := blk_frozen BK164.out 2))
    go_ret
    exact ⟨rs, bw⟩
   ·rw [if_neg c10] at H
    have c10b0 : (a0_2 == a1_2) = false := beq_eq_false_iff_ne.mpr c10
    have c10b1 : (a0_2 != a1_2) = true := bne_iff_ne.mpr c10
    obtain rfl := Option.some.inj H
    go_enter Try.func44, Try.ntmps44
    go_wp2_with (first | ((with_reducible refine gate_dst (N := 2) rfl ?_); refine bx 2 27 #[.int .i64 a0_0, .bool a0_1, .int .i64 a0_2] ?_; intro gb163 hg w16 hbox hb; have BK163 := hbox; have GW163 := gs hg; have GE163 := gs hg; replace HB := bs hb; clear hb hbox hg) | ((with_reducible refine gate_dst (N := 3) rfl ?_); refine bx 3 27 #[.int .i64 a1_0, .bool a1_1, .int .i64 a1_2] ?_; intro gb164 hg w17 hbox hb; have BK164 := hbox; have GW164 := gs hg; have GE164 := gs hg; replace HB := bs hb; have NB163_164 := nl BK163 hg; have NB164_163 := ng BK163 hg; replace BK163 := nk BK163 hb; clear hb hbox hg; have hnb18 := NB163_164.out; have hnc18 := NB164_163.out; have hcz19_0 := bc BK163 0 (.int .i64 a0_0); have hcz19_1 := bc BK163 1 (.bool a0_1); have hcz19_2 := bc BK163 2 (.int .i64 a0_2); have hfz19_0 := blk_frozen BK163.out 0; have hfz19_1 := blk_frozen BK163.out 1; have hfz19_2 := blk_frozen BK163.out 2; have hcz20_0 := bc BK164 0 (.int .i64 a1_0); have hcz20_1 := bc BK164 1 (.bool a1_1); have hcz20_2 := bc BK164 2 (.int .i64 a1_2); have hfz20_0 := blk_frozen BK164.out 0; have hfz20_1 := blk_frozen BK164.out 1; have hfz20_2 := blk_frozen BK164.out 2))
    go_ret
    exact ⟨rs, bw⟩
 ·rw [if_neg c3] at H
  have c3b0 : (a0_0 == a1_0) = false := beq_eq_false_iff_ne.mpr c3
  have c3b1 : (a0_0 != a1_0) = true := bne_iff_ne.mpr c3
  obtain rfl := Option.some.inj H
  go_enter Try.func44, Try.ntmps44
  go_wp2_with (first | ((with_reducible refine gate_dst (N := 2) rfl ?_); refine bx 2 27 #[.int .i64 a0_0, .bool a0_1, .int .i64 a0_2] ?_; intro gb163 hg w21 hbox hb; have BK163 := hbox; have GW163 := gs hg; have GE163 := gs hg; replace HB := bs hb; clear hb hbox hg) | ((with_reducible refine gate_dst (N := 3) rfl ?_); refine bx 3 27 #[.int .i64 a1_0, .bool a1_1, .int .i64 a1_2] ?_; intro gb164 hg w22 hbox hb; have BK164 := hbox; have GW164 := gs hg; have GE164 := gs hg; replace HB := bs hb; have NB163_164 := nl BK163 hg; have NB164_163 := ng BK163 hg; replace BK163 := nk BK163 hb; clear hb hbox hg; have hnb23 := NB163_164.out; have hnc23 := NB164_163.out; have hcz24_0 := bc BK163 0 (.int .i64 a0_0); have hcz24_1 := bc BK163 1 (.bool a0_1); have hcz24_2 := bc BK163 2 (.int .i64 a0_2); have hfz24_0 := blk_frozen BK163.out 0; have hfz24_1 := blk_frozen BK163.out 1; have hfz24_2 := blk_frozen BK163.out 2; have hcz25_0 := bc BK164 0 (.int .i64 a1_0); have hcz25_1 := bc BK164 1 (.bool a1_1); have hcz25_2 := bc BK164 2 (.int .i64 a1_2); have hfz25_0 := blk_frozen BK164.out 0; have hfz25_1 := blk_frozen BK164.out 1; have hfz25_2 := blk_frozen BK164.out 2))
  go_ret
  exact ⟨rs, bw⟩

/-! ### laws_eqSignalS: function 20 -/
def laws_eqSignalS.l0 : Nat → List (S27) → List (S27) → Int → Option (Bool)
  | 0, _, _, _ => none
  | k + 1, x0, x1, x5 => if x5 < (x0.length : Int) then (if 0 ≤ x5 then (if x5 < (x1.length : Int) then ((laws_eqSignal.f ((rd_T27 x0 x5).f0) ((rd_T27 x0 x5).f1) ((rd_T27 x0 x5).f2) ((rd_T27 x1 x5).f0) ((rd_T27 x1 x5).f1) ((rd_T27 x1 x5).f2)).bind fun t167 => (if t167 = true then (laws_eqSignalS.l0 k x0 x1 (wrap64 (x5 + 1))) else (some false))) else (none)) else (none)) else (some true)
def laws_eqSignalS.f (k : Nat) (l0 : List (S27)) (l1 : List (S27)) : Option (Bool) := if (l0.length : Int) = (l1.length : Int) then (laws_eqSignalS.l0 k l0 l1 0) else (some false)
theorem laws_eqSignalS.mono_l : ∀ k, (∀ y0 y1 y2, LeO (laws_eqSignalS.l0 k y0 y1 y2) (laws_eqSignalS.l0 (k + 1) y0 y1 y2))
  | 0 => fun _ _ _ r h => by simp [laws_eqSignalS.l0] at h
  | k + 1 => by
    have ih0 := laws_eqSignalS.mono_l k
    · intro y0 y1 y2
      unfold laws_eqSignalS.l0
      repeat' first
      | (with_reducible exact ih0 _ _ _)
      | (with_reducible exact LeO.refl _)
      | (with_reducible exact LeO.none _)
      | (with_reducible refine LeO.ite ?_ ?_)
      | (with_reducible refine LeO.bind ?_ (fun _ => ?_))
      | exact ih0 _ _ _
      | exact LeO.none _
      | refine LeO.ite ?_ ?_
      | refine LeO.bind ?_ (fun _ => ?_)
theorem laws_eqSignalS.mono : ∀ a0 a1 k, LeO (laws_eqSignalS.f k a0 a1) (laws_eqSignalS.f (k + 1) a0 a1) := by
  intro a0 a1 k
  have ih0 := laws_eqSignalS.mono_l k
  unfold laws_eqSignalS.f
  repeat' first
      | (with_reducible exact ih0 _ _ _)
      | (with_reducible exact LeO.refl _)
      | (with_reducible exact LeO.none _)
      | (with_reducible refine LeO.ite ?_ ?_)
      | (with_reducible refine LeO.bind ?_ (fun _ => ?_))
      | exact ih0 _ _ _
      | exact LeO.none _
      | refine LeO.ite ?_ ?_
      | refine LeO.bind ?_ (fun _ => ?_)
def laws_eqSignalS.T6 : Bool × List (List Nat × List Nat) := (true, [([], []), ([], []), ([0, 1], [0, 1]), ([2], [2]), ([], []), ([], []), ([4, 5], [4, 5]), ([6], [6]), ([3, 7], [3, 7]), ([8], [8])])
def laws_eqSignalS.B6 : List Nat := [0, 0, 3, 7, 0, 0, 48, 112, 255, 511]
theorem laws_eqSignalS.tab6 : rtab .any (opsOf Try.f20 6) = laws_eqSignalS.T6 := by kernel_rfl
theorem laws_eqSignalS.bits6 : waitsOk laws_eqSignalS.T6.2 laws_eqSignalS.B6 = true := by kernel_rfl
set_option maxHeartbeats 8000000 in
set_option maxRecDepth 100000 in
theorem laws_eqSignalS.calls (k : Nat) (A0 : Option Addr) (c0 : Nat) (l0 : List (S27)) (A1 : Option Addr) (c1 : Nat) (l1 : List (S27)) (r : Bool) (w : World) (hr0 : Kd.C k27 w A0 l0.length l0) (hc0 : l0.length ≤ c0) (hr1 : Kd.C k27 w A1 l1.length l1) (hc1 : l1.length ≤ c1) (h : laws_eqSignalS.f k l0 l1 = some r) :
  Calls Try.prog 20 #[.slice A0 l0.length c0, .slice A1 l1.length c1] w fun e w' => e = .returned (.bool r) ∧ Below w.heap.size w w' := by
 have hu27 := Try.underlying27
 have HR0 := Aside0.mk hr0
 have HC0 := Aside0.mk hc0
 clear hr0 hc0
 have HR1 := Aside0.mk hr1
 have HC1 := Aside0.mk hc1
 clear hr1 hc1
 have HB := Aside0.mk (Below.refl w.heap.size w)
 unfold laws_eqSignalS.f at h
 have H := h
 clear h
 by_cases c3 : (l0.length : Int) = (l1.length : Int)
 ·rw [if_pos c3] at H
  have c3b0 : ((l0.length : Int) == (l1.length : Int)) = true := beq_iff_eq.mpr c3
  have c3b1 : ((l0.length : Int) != (l1.length : Int)) = false := bne_eq_false_iff_eq.mpr c3
  have c3b2 : (l0.length == l1.length) = true := by first | simpa using c3 | (simp at c3 ⊢; omega)
  clear c3
  have H' := Aside0.mk H
  clear H
  go_enter Try.func20, Try.ntmps20
  go_wp2
  go_loopg [5] k (fun kq v5 w' => ∃ (x5_1 : Int), v5 = .int .i64 x5_1 ∧ Aside0 (laws_eqSignalS.l0 kq l0 l1 x5_1 = some r) ∧ Aside0 (kq ≤ k) ∧ Aside0 (Below w.heap.size w w'))
  case atStart => exact ⟨(0), (rs), H', ⟨Nat.le_refl _⟩, ⟨bw⟩⟩
  case round =>
   clear H'
   try clear c1
   try clear c2
   try clear p2
   try clear c3
   try clear c3b0
   try clear c3b1
   try clear c3b2
   obtain ⟨x5_1, rfl, HA, HK1, HB⟩ := hrel
   cases gk with
   | zero => exact absurd HA.out (by simp [laws_eqSignalS.l0])
   | succ k1 =>
    have H := HA.out
    clear HA
    simp only [laws_eqSignalS.l0] at H
    by_cases c4 : x5_1 < (l0.length : Int)
    ·rw [if_pos c4] at H
     have c4b0 : decide (x5_1 < (l0.length : Int)) = true := decide_eq_true c4
     clear c4
     by_cases c5 : 0 ≤ x5_1
     ·rw [if_pos c5] at H
      have c5b0 : decide (0 ≤ x5_1) = true := decide_eq_true c5
      clear c5
      by_cases c6 : x5_1 < (l1.length : Int)
      ·rw [if_pos c6] at H
       have c6b0 : decide (x5_1 < (l1.length : Int)) = true := decide_eq_true c6
       clear c6
       replace H := Option.bind_eq_some_iff.mp H
       obtain ⟨t167, A70, H⟩ := H
       (try dsimp only at H)
       have A7 := Aside0.mk A70
       clear A70
       by_cases c8 : t167 = true
       ·subst c8
        rw [if_pos rfl] at H
        have H' := Aside0.mk H
        clear H
        try go_wp2
        replace HB := Aside0.mk (below_drew1 HB.out)
        have p165 : 0 ≤ (x5_1 : Int) := of_decide_eq_true (by first | (with_reducible assumption) | assumption)
        have q165 : x5_1 < (l0.length : Int) := of_decide_eq_true (by first | (with_reducible assumption) | assumption)
        obtain ⟨ad165, e165, hx165_0, hx165_1, hx165_2⟩ := at_T27 HR0.out x5_1 p165 q165
        have hw165_2 := hx165_2
        have hw165_1 := hx165_1
        have hw165_0 := hx165_0
        cases e165
        replace hx165_0 := (HB.out.cell (World.block_lt_of_cell? w _ hx165_0)).trans hx165_0
        replace hx165_1 := (HB.out.cell (World.block_lt_of_cell? w _ hx165_1)).trans hx165_1
        replace hx165_2 := (HB.out.cell (World.block_lt_of_cell? w _ hx165_2)).trans hx165_2
        replace p165 := eq_true p165
        replace q165 := eq_true q165
        have p166 : 0 ≤ (x5_1 : Int) := of_decide_eq_true (by first | (with_reducible assumption) | assumption)
        have q166 : x5_1 < (l1.length : Int) := of_decide_eq_true (by first | (with_reducible assumption) | assumption)
        obtain ⟨ad166, e166, hx166_0, hx166_1, hx166_2⟩ := at_T27 HR1.out x5_1 p166 q166
        have hw166_2 := hx166_2
        have hw166_1 := hx166_1
        have hw166_0 := hx166_0
        cases e166
        replace hx166_0 := (HB.out.cell (World.block_lt_of_cell? w _ hx166_0)).trans hx166_0
        replace hx166_1 := (HB.out.cell (World.block_lt_of_cell? w _ hx166_1)).trans hx166_1
        replace hx166_2 := (HB.out.cell (World.block_lt_of_cell? w _ hx166_2)).trans hx166_2
        replace p166 := eq_true p166
        replace q166 := eq_true q166
        refine start_ (n := 10) (S := fun w' => w'.cell? (ad165.add ((x5_1).toNat * 3)) = some (.int .i64 ((rd_T27 l0 x5_1).f0)) ∧ w'.cell? ⟨(ad165.add ((x5_1).toNat * 3)).block, (ad165.add ((x5_1).toNat * 3)).off + 1, none⟩ = some (.bool ((rd_T27 l0 x5_1).f1)) ∧ w'.cell? ⟨(ad165.add ((x5_1).toNat * 3)).block, (ad165.add ((x5_1).toNat * 3)).off + 2, none⟩ = some (.int .i64 ((rd_T27 l0 x5_1).f2)) ∧ w'.cell? (ad166.add ((x5_1).toNat * 3)) = some (.int .i64 ((rd_T27 l1 x5_1).f0)) ∧ w'.cell? ⟨(ad166.add ((x5_1).toNat * 3)).block, (ad166.add ((x5_1).toNat * 3)).off + 1, none⟩ = some (.bool ((rd_T27 l1 x5_1).f1)) ∧ w'.cell? ⟨(ad166.add ((x5_1).toNat * 3)).block, (ad166.add ((x5_1).toNat * 3)).off + 2, none⟩ = some (.int .i64 ((rd_T27 l1 x5_1).f2))) (ds := []) #[false, false, false, false, false, false, false, false, false, false] (by kernel_rfl) rfl rfl ⟨((HB.out.cell (World.block_lt_of_cell? w _ hw165_0)).trans hw165_0), ((HB.out.cell (World.block_lt_of_cell? w _ hw165_1)).trans hw165_1), ((HB.out.cell (World.block_lt_of_cell? w _ hw165_2)).trans hw165_2), ((HB.out.cell (World.block_lt_of_cell? w _ hw166_0)).trans hw166_0), ((HB.out.cell (World.block_lt_of_cell? w _ hw166_1)).trans hw166_1), ((HB.out.cell (World.block_lt_of_cell? w _ hw166_2)).trans hw166_2)⟩ (fun hHeld => ?_); refine with_tabW laws_eqSignalS.tab6 laws_eqSignalS.bits6 (fun HT_ HW_ => ?_)
        generalize wr.drew = w9 at HB hx165_0 hx165_1 hx165_2 hx166_0 hx166_1 hx166_2 hHeld ⊢
        refine pu 0 (some 17) #[true, false, false, false, false, false, false, false, false, false] ?_
        refine pu 1 (some 18) #[true, true, false, false, false, false, false, false, false, false] ?_
        refine pu 2 (some 19) #[true, true, true, false, false, false, false, false, false, false] ?_
        refine pu 4 (some 21) #[true, true, true, false, true, false, false, false, false, false] ?_
        refine pu 5 (some 22) #[true, true, true, false, true, true, false, false, false, false] ?_
        refine pu 6 (some 23) #[true, true, true, false, true, true, true, false, false, false] ?_
        refine take_ (i := 3) (N := some 20) (v := ?_) (a' := ?_) #[true, true, true, true, true, true, true, false, false, false] rfl rfl (take_ofW HT_.out HW_.out (by kernel_rfl)) (fun _ _ _ h => h) (Or.inl ⟨by rfl, ?_⟩) hHeld ?_ ?_
        rotate_left
        ·rintro w' ⟨s0, s1, s2, s3, s4, s5⟩
         go_simp
         with_reducible rfl
        rotate_left
        ·simp only [Act.put, List.setIfInBounds_toArray, List.set_cons_zero, List.set_cons_succ, i64_w, i32_w]
         rfl
        refine take_ (i := 7) (N := some 24) (v := ?_) (a' := ?_) #[true, true, true, true, true, true, true, true, false, false] rfl rfl (take_ofW HT_.out HW_.out (by kernel_rfl)) (fun _ _ _ h => h) (Or.inl ⟨by rfl, ?_⟩) hHeld ?_ ?_
        rotate_left
        ·rintro w' ⟨s0, s1, s2, s3, s4, s5⟩
         go_simp
         with_reducible rfl
        rotate_left
        ·simp only [Act.put, List.setIfInBounds_toArray, List.set_cons_zero, List.set_cons_succ, i64_w, i32_w]
         rfl
        refine one_ (i := 8) (N := some 25) #[true, true, true, true, true, true, true, true, true, false] rfl rfl (one_of HT_.out (by kernel_rfl)) (by decide) (fun K hK => ?_)
        refine goes_ Try.func44 (by kernel_rfl) rfl #[.agg #[.int .i64 ((rd_T27 l0 x5_1).f0), .bool ((rd_T27 l0 x5_1).f1), .int .i64 ((rd_T27 l0 x5_1).f2)], .agg #[.int .i64 ((rd_T27 l1 x5_1).f0), .bool ((rd_T27 l1 x5_1).f1), .int .i64 ((rd_T27 l1 x5_1).f2)]] (by rfl) rfl rfl (by (try simp only [List.map_toArray, List.map_cons, List.map_nil]); first | done | rfl | (simp only [List.length_drop, List.length_take]; rfl)) ?_
        with_reducible refine (laws_eqSignal.calls ((rd_T27 l0 x5_1).f0) ((rd_T27 l0 x5_1).f1) ((rd_T27 l0 x5_1).f2) ((rd_T27 l1 x5_1).f0) ((rd_T27 l1 x5_1).f1) ((rd_T27 l1 x5_1).f2) true _ A7.out).mono ?_
        rintro e w10 ⟨rfl, hb⟩
        refine ⟨_, rfl, ?_⟩
        replace HB := bs hb
        (try clear hb)
        refine hK.out _ _ ⟨((HB.out.cell (World.block_lt_of_cell? w _ hw165_0)).trans hw165_0), ((HB.out.cell (World.block_lt_of_cell? w _ hw165_1)).trans hw165_1), ((HB.out.cell (World.block_lt_of_cell? w _ hw165_2)).trans hw165_2), ((HB.out.cell (World.block_lt_of_cell? w _ hw166_0)).trans hw166_0), ((HB.out.cell (World.block_lt_of_cell? w _ hw166_1)).trans hw166_1), ((HB.out.cell (World.block_lt_of_cell? w _ hw166_2)).trans hw166_2)⟩ (fun hHeld => ?_)
        clear hK K
        refine nm (some 25) ?_
        refine pu 9 (some 26) #[true, true, true, true, true, true, true, true, true, true] ?_
        refine done_ (done_of HT_.out (by kernel_rfl)) ?_
        try go_wp2
        go_roundg k1
        case measure => have := HK1.out; omega
        case rel => exact ⟨(wrap64 (x5_1 + 1)), (rs), H', ⟨by have := HK1.out; omega⟩, ⟨bw⟩⟩
       ·replace c8 := Bool.eq_false_iff.mpr c8
        subst c8
        rw [if_neg (show ¬ (false = true) by decide)] at H
        obtain rfl := Option.some.inj H
        try go_wp2
        replace HB := Aside0.mk (below_drew1 HB.out)
        have p165 : 0 ≤ (x5_1 : Int) := of_decide_eq_true (by first | (with_reducible assumption) | assumption)
        have q165 : x5_1 < (l0.length : Int) := of_decide_eq_true (by first | (with_reducible assumption) | assumption)
        obtain ⟨ad165, e165, hx165_0, hx165_1, hx165_2⟩ := at_T27 HR0.out x5_1 p165 q165
        have hw165_2 := hx165_2
        have hw165_1 := hx165_1
        have hw165_0 := hx165_0
        cases e165
        replace hx165_0 := (HB.out.cell (World.block_lt_of_cell? w _ hx165_0)).trans hx165_0
        replace hx165_1 := (HB.out.cell (World.block_lt_of_cell? w _ hx165_1)).trans hx165_1
        replace hx165_2 := (HB.out.cell (World.block_lt_of_cell? w _ hx165_2)).trans hx165_2
        replace p165 := eq_true p165
        replace q165 := eq_true q165
        have p166 : 0 ≤ (x5_1 : Int) := of_decide_eq_true (by first | (with_reducible assumption) | assumption)
        have q166 : x5_1 < (l1.length : Int) := of_decide_eq_true (by first | (with_reducible assumption) | assumption)
        obtain ⟨ad166, e166, hx166_0, hx166_1, hx166_2⟩ := at_T27 HR1.out x5_1 p166 q166
        have hw166_2 := hx166_2
        have hw166_1 := hx166_1
        have hw166_0 := hx166_0
        cases e166
        replace hx166_0 := (HB.out.cell (World.block_lt_of_cell? w _ hx166_0)).trans hx166_0
        replace hx166_1 := (HB.out.cell (World.block_lt_of_cell? w _ hx166_1)).trans hx166_1
        replace hx166_2 := (HB.out.cell (World.block_lt_of_cell? w _ hx166_2)).trans hx166_2
        replace p166 := eq_true p166
        replace q166 := eq_true q166
        refine start_ (n := 10) (S := fun w' => w'.cell? (ad165.add ((x5_1).toNat * 3)) = some (.int .i64 ((rd_T27 l0 x5_1).f0)) ∧ w'.cell? ⟨(ad165.add ((x5_1).toNat * 3)).block, (ad165.add ((x5_1).toNat * 3)).off + 1, none⟩ = some (.bool ((rd_T27 l0 x5_1).f1)) ∧ w'.cell? ⟨(ad165.add ((x5_1).toNat * 3)).block, (ad165.add ((x5_1).toNat * 3)).off + 2, none⟩ = some (.int .i64 ((rd_T27 l0 x5_1).f2)) ∧ w'.cell? (ad166.add ((x5_1).toNat * 3)) = some (.int .i64 ((rd_T27 l1 x5_1).f0)) ∧ w'.cell? ⟨(ad166.add ((x5_1).toNat * 3)).block, (ad166.add ((x5_1).toNat * 3)).off + 1, none⟩ = some (.bool ((rd_T27 l1 x5_1).f1)) ∧ w'.cell? ⟨(ad166.add ((x5_1).toNat * 3)).block, (ad166.add ((x5_1).toNat * 3)).off + 2, none⟩ = some (.int .i64 ((rd_T27 l1 x5_1).f2))) (ds := []) #[false, false, false, false, false, false, false, false, false, false] (by kernel_rfl) rfl rfl ⟨((HB.out.cell (World.block_lt_of_cell? w _ hw165_0)).trans hw165_0), ((HB.out.cell (World.block_lt_of_cell? w _ hw165_1)).trans hw165_1), ((HB.out.cell (World.block_lt_of_cell? w _ hw165_2)).trans hw165_2), ((HB.out.cell (World.block_lt_of_cell? w _ hw166_0)).trans hw166_0), ((HB.out.cell (World.block_lt_of_cell? w _ hw166_1)).trans hw166_1), ((HB.out.cell (World.block_lt_of_cell? w _ hw166_2)).trans hw166_2)⟩ (fun hHeld => ?_); refine with_tabW laws_eqSignalS.tab6 laws_eqSignalS.bits6 (fun HT_ HW_ => ?_)
        generalize wr.drew = w11 at HB hx165_0 hx165_1 hx165_2 hx166_0 hx166_1 hx166_2 hHeld ⊢
        refine pu 0 (some 17) #[true, false, false, false, false, false, false, false, false, false] ?_
        refine pu 1 (some 18) #[true, true, false, false, false, false, false, false, false, false] ?_
        refine pu 2 (some 19) #[true, true, true, false, false, false, false, false, false, false] ?_
        refine pu 4 (some 21) #[true, true, true, false, true, false, false, false, false, false] ?_
        refine pu 5 (some 22) #[true, true, true, false, true, true, false, false, false, false] ?_
        refine pu 6 (some 23) #[true, true, true, false, true, true, true, false, false, false] ?_
        refine take_ (i := 3) (N := some 20) (v := ?_) (a' := ?_) #[true, true, true, true, true, true, true, false, false, false] rfl rfl (take_ofW HT_.out HW_.out (by kernel_rfl)) (fun _ _ _ h => h) (Or.inl ⟨by rfl, ?_⟩) hHeld ?_ ?_
        rotate_left
        ·rintro w' ⟨s0, s1, s2, s3, s4, s5⟩
         go_simp
         with_reducible rfl
        rotate_left
        ·simp only [Act.put, List.setIfInBounds_toArray, List.set_cons_zero, List.set_cons_succ, i64_w, i32_w]
         rfl
        refine take_ (i := 7) (N := some 24) (v := ?_) (a' := ?_) #[true, true, true, true, true, true, true, true, false, false] rfl rfl (take_ofW HT_.out HW_.out (by kernel_rfl)) (fun _ _ _ h => h) (Or.inl ⟨by rfl, ?_⟩) hHeld ?_ ?_
        rotate_left
        ·rintro w' ⟨s0, s1, s2, s3, s4, s5⟩
         go_simp
         with_reducible rfl
        rotate_left
        ·simp only [Act.put, List.setIfInBounds_toArray, List.set_cons_zero, List.set_cons_succ, i64_w, i32_w]
         rfl
        refine one_ (i := 8) (N := some 25) #[true, true, true, true, true, true, true, true, true, false] rfl rfl (one_of HT_.out (by kernel_rfl)) (by decide) (fun K hK => ?_)
        refine goes_ Try.func44 (by kernel_rfl) rfl #[.agg #[.int .i64 ((rd_T27 l0 x5_1).f0), .bool ((rd_T27 l0 x5_1).f1), .int .i64 ((rd_T27 l0 x5_1).f2)], .agg #[.int .i64 ((rd_T27 l1 x5_1).f0), .bool ((rd_T27 l1 x5_1).f1), .int .i64 ((rd_T27 l1 x5_1).f2)]] (by rfl) rfl rfl (by (try simp only [List.map_toArray, List.map_cons, List.map_nil]); first | done | rfl | (simp only [List.length_drop, List.length_take]; rfl)) ?_
        with_reducible refine (laws_eqSignal.calls ((rd_T27 l0 x5_1).f0) ((rd_T27 l0 x5_1).f1) ((rd_T27 l0 x5_1).f2) ((rd_T27 l1 x5_1).f0) ((rd_T27 l1 x5_1).f1) ((rd_T27 l1 x5_1).f2) false _ A7.out).mono ?_
        rintro e w12 ⟨rfl, hb⟩
        refine ⟨_, rfl, ?_⟩
        replace HB := bs hb
        (try clear hb)
        refine hK.out _ _ ⟨((HB.out.cell (World.block_lt_of_cell? w _ hw165_0)).trans hw165_0), ((HB.out.cell (World.block_lt_of_cell? w _ hw165_1)).trans hw165_1), ((HB.out.cell (World.block_lt_of_cell? w _ hw165_2)).trans hw165_2), ((HB.out.cell (World.block_lt_of_cell? w _ hw166_0)).trans hw166_0), ((HB.out.cell (World.block_lt_of_cell? w _ hw166_1)).trans hw166_1), ((HB.out.cell (World.block_lt_of_cell? w _ hw166_2)).trans hw166_2)⟩ (fun hHeld => ?_)
        clear hK K
        refine nm (some 25) ?_
        refine pu 9 (some 26) #[true, true, true, true, true, true, true, true, true, true] ?_
        refine done_ (done_of HT_.out (by kernel_rfl)) ?_
        try go_wp2
        go_ret
        exact ⟨rs, bw⟩
      ·rw [if_neg c6] at H
       exact absurd H (by simp)
     ·rw [if_neg c5] at H
      exact absurd H (by simp)
    ·rw [if_neg c4] at H
     have c4b0 : decide (x5_1 < (l0.length : Int)) = false := decide_eq_false c4
     clear c4
     obtain rfl := Option.some.inj H
     go_wp2
     go_ret
     exact ⟨rs, bw⟩
 ·rw [if_neg c3] at H
  have c3b0 : ((l0.length : Int) == (l1.length : Int)) = false := beq_eq_false_iff_ne.mpr c3
  have c3b1 : ((l0.length : Int) != (l1.length : Int)) = true := bne_iff_ne.mpr c3
  have c3b2 : (l0.length == l1.length) = false := by first | simpa using c3 | (simp at c3 ⊢; omega)
  obtain rfl := Option.some.inj H
  go_enter Try.func20, Try.ntmps20
  go_wp2
  go_ret
  exact ⟨rs, bw⟩

end Go.Proofs.Ytafcfhlgenljgaa.PFnExactTimeAllHear
