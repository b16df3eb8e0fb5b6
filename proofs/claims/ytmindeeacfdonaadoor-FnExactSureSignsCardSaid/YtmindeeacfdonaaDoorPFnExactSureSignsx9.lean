-- Laid by xprint, a program of this session that runs over the kit's print.
import Derived.Test.YtmindeeacfdonaaDoorPFnExactSureSignsx0
import Derived.Test.YtmindeeacfdonaaDoorPFnExactSureSignsx2
import Derived.Test.YtmindeeacfdonaaDoorPFnExactSureSignsx5
import Derived.Test.YtmindeeacfdonaaDoorPFnExactSureSignsx8
namespace Go.Proofs.YtmindeeacfdonaaDoor.PFnExactSureSigns
open Go.RowKit Go.Proofs.YtmindeeacfdonaaDoorW.PrintWords Go.Proofs.YtmindeeacfdonaaDoorW.PrintLast Go.Proofs.YtmindeeacfdonaaDoorW.PrintMore Go.Proofs.YtmindeeacfdonaaDoor.Sq
attribute [local go_sem] max2_int min2_int max_two min_two max_three min_three max_four min_four   -- for this text's walks alone
set_option linter.unusedVariables false
set_option linter.unusedSimpArgs false

/-! ### laws_FnExactSureSigns: function 10 -/
def laws_FnExactSureSigns.j0 : Nat → Bool → Int → List (S30) → Int → List (S33) → Option (Bool)
  | 0, _, _, _, _, _ => none
  | k + 1, x34, x246000, x246001, x258000, x258001 => if x34 = true then (some false) else ((laws_toPuzzle.f k x246000 x246001).bind fun bt260 => ((laws_eqPuzzle.f k x258000 x258001 bt260.1 bt260.2).bind fun t264 => (if t264 = true then (some true) else (some false))))
def laws_FnExactSureSigns.f (k : Nat) (a0_0 : Int) (l0_1 : List (S30)) : Option (Bool) := (laws_szPuzzle.f a0_0 l0_1 1048576).bind fun t246 => (if t246 < 0 then (some true) else ((laws_toPuzzle.f k a0_0 l0_1).bind fun bt247 => ((spec_SureSigns.f k bt247.1 bt247.2).bind fun bt251 => ((laws_toPuzzle.f k a0_0 l0_1).bind fun bt253 => ((impl_SureSigns.f k bt253.1 bt253.2).bind fun bt258 => (if bt258.1.toList = bt251.1.toList then (laws_FnExactSureSigns.j0 k (bt258.2 != bt251.2) a0_0 l0_1 bt253.1 bt253.2) else (laws_FnExactSureSigns.j0 k true a0_0 l0_1 bt253.1 bt253.2)))))))
theorem laws_FnExactSureSigns.mono_l : ∀ k, (∀ y0 y1 y2 y3 y4, LeO (laws_FnExactSureSigns.j0 k y0 y1 y2 y3 y4) (laws_FnExactSureSigns.j0 (k + 1) y0 y1 y2 y3 y4))
  | 0 => fun _ _ _ _ _ r h => by simp [laws_FnExactSureSigns.j0] at h
  | k + 1 => by
    have ih0 := laws_FnExactSureSigns.mono_l k
    · intro y0 y1 y2 y3 y4
      unfold laws_FnExactSureSigns.j0
      repeat' first
      | (with_reducible exact ih0 _ _ _ _ _)
      | (with_reducible exact impl_SureSigns.mono _ _ _)
      | (with_reducible exact laws_eqPuzzle.mono _ _ _ _ _)
      | (with_reducible exact laws_toPuzzle.mono _ _ _)
      | (with_reducible exact spec_SureSigns.mono _ _ _)
      | (with_reducible exact LeO.refl _)
      | (with_reducible exact LeO.none _)
      | (with_reducible refine LeO.ite ?_ ?_)
      | (with_reducible refine LeO.bind ?_ (fun _ => ?_))
      | exact ih0 _ _ _ _ _
      | exact impl_SureSigns.mono _ _ _
      | exact laws_eqPuzzle.mono _ _ _ _ _
      | exact laws_toPuzzle.mono _ _ _
      | exact spec_SureSigns.mono _ _ _
      | exact LeO.none _
      | refine LeO.ite ?_ ?_
      | refine LeO.bind ?_ (fun _ => ?_)
theorem laws_FnExactSureSigns.mono : ∀ a0 a1 k, LeO (laws_FnExactSureSigns.f k a0 a1) (laws_FnExactSureSigns.f (k + 1) a0 a1) := by
  intro a0 a1 k
  have ih0 := laws_FnExactSureSigns.mono_l k
  unfold laws_FnExactSureSigns.f
  repeat' first
      | (with_reducible exact ih0 _ _ _ _ _)
      | (with_reducible exact impl_SureSigns.mono _ _ _)
      | (with_reducible exact laws_eqPuzzle.mono _ _ _ _ _)
      | (with_reducible exact laws_toPuzzle.mono _ _ _)
      | (with_reducible exact spec_SureSigns.mono _ _ _)
      | (with_reducible exact LeO.refl _)
      | (with_reducible exact LeO.none _)
      | (with_reducible refine LeO.ite ?_ ?_)
      | (with_reducible refine LeO.bind ?_ (fun _ => ?_))
      | exact ih0 _ _ _ _ _
      | exact impl_SureSigns.mono _ _ _
      | exact laws_eqPuzzle.mono _ _ _ _ _
      | exact laws_toPuzzle.mono _ _ _
      | exact spec_SureSigns.mono _ _ _
      | exact LeO.none _
      | refine LeO.ite ?_ ?_
      | refine LeO.bind ?_ (fun _ => ?_)
set_option maxHeartbeats 8000000 in
set_option maxRecDepth 100000 in
theorem laws_FnExactSureSigns.calls (k : Nat) (a0_0 : Int) (A0_1 : Option Addr) (c0_1 : Nat) (l0_1 : List (S30)) (r : Bool) (w : World) (hm : Dr.Tab w) (hr0_1 : Kd.C k30 w A0_1 l0_1.length l0_1) (hc0_1 : l0_1.length ≤ c0_1) (hrt : r = true) (h : laws_FnExactSureSigns.f k a0_0 l0_1 = some r) :
  Calls Tryd.prog 10 #[.agg #[.int .i64 a0_0, .slice A0_1 l0_1.length c0_1]] w fun e w' => e = .returned (.bool r) ∧ Below w.heap.size w w' := by
 have hu46 := Tryd.underlying46
 have hu38 := Tryd.underlying38
 have HR0_1 := Aside0.mk hr0_1
 have HC0_1 := Aside0.mk hc0_1
 clear hr0_1 hc0_1
 have HB := Aside0.mk (Below.refl w.heap.size w)
 have HRT := Aside0.mk hrt
 clear hrt
 have HMM := Aside0.mk hm
 clear hm
 unfold laws_FnExactSureSigns.f at h
 have H := h
 clear h
 replace H := Option.bind_eq_some_iff.mp H
 obtain ⟨t246, A20, H⟩ := H
 (try dsimp only at H)
 have A2 := Aside0.mk A20
 clear A20
 by_cases c3 : t246 < 0
 ·rw [if_pos c3] at H
  have c3b0 : decide (t246 < 0) = true := decide_eq_true c3
  clear c3
  obtain rfl := Option.some.inj H
  go_enter Tryd.func10, Tryd.ntmps10
  go_wp2_with (first | ((with_reducible refine gate_dst (N := 1) rfl ?_); refine bx 1 46 #[.int .i64 a0_0, .slice A0_1 l0_1.length c0_1] ?_; intro gb245 hg w4 hbox hb; have BK245 := hbox; have GW245 := gs hg; have GE245 := gs hg; replace HB := bs hb; clear hb hbox hg; have hcz5_0 := bc BK245 0 (.int .i64 a0_0); have hcz5_1 := bc BK245 1 (.slice A0_1 l0_1.length c0_1); have hfz5_0 := blk_frozen BK245.out 0; have hfz5_1 := blk_frozen BK245.out 1) | ((with_reducible refine gate_callee (f := 27) rfl ?_); refine gl (some 11) Tryd.func27 #[.agg #[.int .i64 a0_0, .slice A0_1 l0_1.length c0_1], .int .i64 1048576] ?_; (with_reducible refine (laws_szPuzzle.calls a0_0 _ _ l0_1 1048576 t246 _ ?side1 ?side2 A2.out).mono ?_); (case side1 => repeat (first | exact (Kd.C_below HR0_1.out HB.out) | (with_reducible refine Kd.C_alloc ?_ _) | (with_reducible refine Kd.C_drewN ?_ _) | (with_reducible refine Kd.C_drew ?_))); (case side2 => exact HC0_1.out); rintro e w6 ⟨rfl, hb⟩; refine ⟨_, rfl, ?_⟩; replace BK245 := nk BK245 hb; replace HB := bs hb; (try clear hb)))
  go_ret
  exact ⟨rs, bw⟩
 ·rw [if_neg c3] at H
  have c3b0 : decide (t246 < 0) = false := decide_eq_false c3
  clear c3
  replace H := Option.bind_eq_some_iff.mp H
  obtain ⟨⟨t247, t248⟩, A70, H⟩ := H
  (try dsimp only at H)
  have A7 := Aside0.mk A70
  clear A70
  replace H := Option.bind_eq_some_iff.mp H
  obtain ⟨⟨t251, t252⟩, A80, H⟩ := H
  (try dsimp only at H)
  have A8 := Aside0.mk A80
  clear A80
  replace H := Option.bind_eq_some_iff.mp H
  obtain ⟨⟨t253, t254⟩, A90, H⟩ := H
  (try dsimp only at H)
  have A9 := Aside0.mk A90
  clear A90
  replace H := Option.bind_eq_some_iff.mp H
  obtain ⟨⟨t258, t259⟩, A100, H⟩ := H
  (try dsimp only at H)
  have A10 := Aside0.mk A100
  clear A100
  have HC11 := Aside0.mk H
  clear H
  go_enter Tryd.func10, Tryd.ntmps10
  go_upto_region 8 with (first | ((with_reducible refine gate_dst (N := 1) rfl ?_); refine bx 1 46 #[.int .i64 a0_0, .slice A0_1 l0_1.length c0_1] ?_; intro gb245 hg w12 hbox hb; have BK245 := hbox; have GW245 := gs hg; have GE245 := gs hg; replace HB := bs hb; clear hb hbox hg; have hcz13_0 := bc BK245 0 (.int .i64 a0_0); have hcz13_1 := bc BK245 1 (.slice A0_1 l0_1.length c0_1); have hfz13_0 := blk_frozen BK245.out 0; have hfz13_1 := blk_frozen BK245.out 1) | ((with_reducible refine gate_callee (f := 27) rfl ?_); refine gl (some 11) Tryd.func27 #[.agg #[.int .i64 a0_0, .slice A0_1 l0_1.length c0_1], .int .i64 1048576] ?_; (with_reducible refine (laws_szPuzzle.calls a0_0 _ _ l0_1 1048576 t246 _ ?side1 ?side2 A2.out).mono ?_); (case side1 => repeat (first | exact (Kd.C_below HR0_1.out HB.out) | (with_reducible refine Kd.C_alloc ?_ _) | (with_reducible refine Kd.C_drewN ?_ _) | (with_reducible refine Kd.C_drew ?_))); (case side2 => exact HC0_1.out); rintro e w14 ⟨rfl, hb⟩; refine ⟨_, rfl, ?_⟩; replace BK245 := nk BK245 hb; replace HB := bs hb; (try clear hb); have hcz15_0 := bc BK245 0 (.int .i64 a0_0); have hcz15_1 := bc BK245 1 (.slice A0_1 l0_1.length c0_1); have hfz15_0 := blk_frozen BK245.out 0; have hfz15_1 := blk_frozen BK245.out 1) | ((with_reducible refine gate_callee (f := 29) rfl ?_); refine gl (some 16) Tryd.func29 #[.agg #[.int .i64 a0_0, .slice A0_1 l0_1.length c0_1]] ?_; (with_reducible refine (laws_toPuzzle.calls k a0_0 _ _ l0_1 t247 t248 _ ?side1 ?side2 A7.out).mono ?_); (case side1 => repeat (first | exact (Kd.C_below HR0_1.out HB.out) | (with_reducible refine Kd.C_alloc ?_ _) | (with_reducible refine Kd.C_drewN ?_ _) | (with_reducible refine Kd.C_drew ?_))); (case side2 => exact HC0_1.out); rintro e w16 ⟨v249, rfl, ho0, hb⟩; refine ⟨_, rfl, ?_⟩; have HO250 := Aside0.mk (Kd.R_lower ho0 (below_size bw)); replace BK245 := nk BK245 hb; replace HB := bs hb; (try clear hb); (try clear ho0); obtain ⟨Ao17, co17, eo17⟩ := Kd.R_slice HO250.out; subst eo17) | ((with_reducible refine gate_callee (f := 37) rfl ?_); refine gl (some 17) Tryd.func37 #[.agg #[.int .i64 t247, .slice Ao17 t248.length co17]] ?_; (with_reducible refine (spec_SureSigns.calls k t247 _ _ t248 t251 t252 _ ?side1 ?side2 A8.out).mono ?_); (case side1 => repeat (first | exact (Kd.R_reads' HO250.out).2.2 | (with_reducible refine Kd.C_alloc ?_ _) | (with_reducible refine Kd.C_drewN ?_ _) | (with_reducible refine Kd.C_drew ?_))); (case side2 => exact (Kd.R_reads' HO250.out).2.1); rintro e w18 ⟨rfl, hb⟩; refine ⟨_, rfl, ?_⟩; replace HO250 := Aside0.mk (Kd.R_below (pr HO250) hb); replace BK245 := nk BK245 hb; replace HB := bs hb; (try clear hb); have hcz19_0 := bc BK245 0 (.int .i64 a0_0); have hcz19_1 := bc BK245 1 (.slice A0_1 l0_1.length c0_1); have hfz19_0 := blk_frozen BK245.out 0; have hfz19_1 := blk_frozen BK245.out 1) | ((with_reducible refine gate_callee (f := 29) rfl ?_); refine gl (some 21) Tryd.func29 #[.agg #[.int .i64 a0_0, .slice A0_1 l0_1.length c0_1]] ?_; (with_reducible refine (laws_toPuzzle.calls k a0_0 _ _ l0_1 t253 t254 _ ?side1 ?side2 A9.out).mono ?_); (case side1 => repeat (first | exact (Kd.C_below HR0_1.out HB.out) | (with_reducible refine Kd.C_alloc ?_ _) | (with_reducible refine Kd.C_drewN ?_ _) | (with_reducible refine Kd.C_drew ?_))); (case side2 => exact HC0_1.out); rintro e w20 ⟨v255, rfl, ho0, hb⟩; refine ⟨_, rfl, ?_⟩; have HO256 := Aside0.mk (Kd.R_lower (Kd.R_new' ho0 (Kd.R_lt (pr HO250))) (below_size bw)); replace HO250 := Aside0.mk (Kd.R_elder' (pr HO250) (Kd.R_base ho0) hb); replace BK245 := nk BK245 hb; replace HB := bs hb; (try clear hb); (try clear ho0)) | ((with_reducible refine gate_dst (N := 6) rfl ?_); refine bx 6 38 #[.int .i64 0, .slice none 0 0] ?_; intro gb257 hg w21 hbox hb; replace HO250 := Aside0.mk (Kd.R_below (pr HO250) hb); replace HO256 := Aside0.mk (Kd.R_below (pr HO256) hb); have BK257 := hbox; have GW257 := gs hg; have GE257 := gs hg; replace HB := bs hb; have NB245_257 := nl BK245 hg; have NB257_245 := ng BK245 hg; replace BK245 := nk BK245 hb; clear hb hbox hg; have hnb22 := NB257_245.out; have hnc22 := NB245_257.out; have hcz23_0 := bc BK257 0 (.int .i64 0); have hcz23_1 := bc BK257 1 (.slice none 0 0); have hfz23_0 := blk_frozen BK257.out 0; have hfz23_1 := blk_frozen BK257.out 1; obtain ⟨Ao24, co24, eo24⟩ := Kd.R_slice HO256.out; subst eo24) | ((with_reducible refine gate_callee (f := 38) rfl ?_); refine gl (some 24) Tryd.func38 #[.agg #[.int .i64 t253, .slice Ao24 t254.length co24]] ?_; (with_reducible refine (impl_SureSigns.calls k t253 _ _ t254 t258 t259 _ ?side1 ?side2 ?side3 A10.out).mono ?_); (case side1 => first | exact HMM.out | exact Dr.Tab.below HMM.out bw | (repeat (first | exact HMM.out | apply Dr.Tab.drewN | apply Dr.Tab.drew | apply Dr.Tab.alloc))); (case side2 => refine (Kd.R_reads' (e := 33) (base := w.heap.size) (ok := fun k_ => (True ∧ some k_ ≠ (.slice Ao17 t248.length co17 : Value).ownBlock)) (n := t254.length) (c := co24) ?_).2.2; exact (by (with_reducible repeat (first | apply Kd.R_alloc | apply Kd.R_drewN | apply Kd.R_drew)); exact (Kd.R_mono (Kd.R_far (p := ⟨gb257, 1, none⟩) (Kd.R_far (p := ⟨gb257, 0, none⟩) (Kd.R_types HO256.out BK257.out (by decide)) (fun _ hk => hk.2) (.int .i64 t253)) (fun _ hk => hk.2) (.slice Ao24 t254.length co24)) (fun _ h_ => h_.1)))); (case side3 => exact (Kd.R_reads' HO256.out).2.1); rintro e w25 ⟨rfl, hb⟩; refine ⟨_, rfl, ?_⟩; replace HO250 := Aside0.mk (Kd.R_below (by (with_reducible repeat (first | apply Kd.R_alloc | apply Kd.R_drewN | apply Kd.R_drew)); exact (Kd.R_mono (Kd.R_far (p := ⟨gb257, 1, none⟩) (Kd.R_far (p := ⟨gb257, 0, none⟩) (Kd.R_types HO250.out BK257.out (by decide)) (fun _ hk => hk.2) (.int .i64 t253)) (fun _ hk => hk.2) (.slice Ao24 t254.length co24)) (fun _ h_ => h_.1))) hb); replace HO256 := Aside0.mk (Kd.R_below (by (with_reducible repeat (first | apply Kd.R_alloc | apply Kd.R_drewN | apply Kd.R_drew)); exact (Kd.R_mono (Kd.R_far (p := ⟨gb257, 1, none⟩) (Kd.R_far (p := ⟨gb257, 0, none⟩) (Kd.R_types HO256.out BK257.out (by decide)) (fun _ hk => hk.2) (.int .i64 t253)) (fun _ hk => hk.2) (.slice Ao24 t254.length co24)) (fun _ h_ => h_.1))) hb); replace BK245 := Aside0.mk (blk_below (g := gb245) (o := .cells #[.int .i64 a0_0, .slice A0_1 l0_1.length c0_1] 46 (0, 0)) (by (with_reducible repeat (first | refine blk_drewN ?_ _ | refine blk_drew ?_ | refine blk_alloc ?_ _)); refine blk_far ?_ NB245_257.out _; (with_reducible repeat (first | refine blk_drewN ?_ _ | refine blk_drew ?_ | refine blk_alloc ?_ _)); refine blk_far ?_ NB245_257.out _; (with_reducible repeat (first | refine blk_drewN ?_ _ | refine blk_drew ?_ | refine blk_alloc ?_ _)); exact BK245.out) hb); replace BK257 := Aside0.mk (blk_below (g := gb257) (o := .cells #[.int .i64 t253, .slice Ao24 t254.length co24] 38 (0, 0)) (by (with_reducible repeat (first | refine blk_drewN ?_ _ | refine blk_drew ?_ | refine blk_alloc ?_ _)); refine blk_put (cs := #[.int .i64 t253, .slice none 0 0]) ?_ 1 _ rfl; (with_reducible repeat (first | refine blk_drewN ?_ _ | refine blk_drew ?_ | refine blk_alloc ?_ _)); refine blk_put (cs := #[.int .i64 0, .slice none 0 0]) ?_ 0 _ rfl; (with_reducible repeat (first | refine blk_drewN ?_ _ | refine blk_drew ?_ | refine blk_alloc ?_ _)); exact BK257.out) hb); replace HB := bs hb; (try clear hb)))
  (try simp only [Act.put, List.setIfInBounds_toArray, List.set_cons_zero, List.set_cons_succ])
  go_cut [34] (fun v34 wc => ∃ (kq : Nat) (x34_10 : Bool), v34 = .bool x34_10 ∧ Aside0 (laws_FnExactSureSigns.j0 kq x34_10 a0_0 l0_1 t253 t254 = some r) ∧ Aside0 (kq ≤ k) ∧ Aside0 (Kd.R k33 33 wc w.heap.size (fun _ => True) (.slice Ao24 t254.length co24) t254) ∧ Aside0 (wc.heap[gb245]? = some (.cells #[.int .i64 a0_0, (.slice A0_1 l0_1.length c0_1)] 46 (0, 0))) ∧ Aside0 (wc.heap[gb257]? = some (.cells #[.int .i64 t253, (.slice Ao24 t254.length co24)] 38 (0, 0))) ∧ Aside0 (Below w.heap.size w wc))
  case first =>
   have H := HC11.out
   clear HC11
   by_cases c26 : t258.toList = t251.toList
   ·rw [if_pos c26] at H
    have c26b0 : (t258.toList == t251.toList) = true := beq_iff_eq.mpr c26
    have c26b1 : (t258.toList != t251.toList) = false := bne_eq_false_iff_eq.mpr c26
    clear c26
    (first | rw [c26b0] | rw [@decide_eq_true _ _ (of_decide_eq_true c26b1)] | rw [@decide_eq_false _ _ (of_decide_eq_false c26b1)] | (simp only [i64_w, i32_w]; rw [c26b0]) | skip)
    have H' := Aside0.mk H
    clear H
    go_wp2
    go_meet
    case rel => exact ⟨_, ((t259 != t252)), (rs), H', ⟨by first | omega | exact Nat.le_refl _⟩, ⟨by (with_reducible repeat (first | apply Kd.R_alloc | apply Kd.R_drewN | apply Kd.R_drew)); exact Kd.R_mono HO256.out (fun _ hk => trivial)⟩, ⟨pk BK245⟩, ⟨pk BK257⟩, ⟨bw⟩⟩
   ·rw [if_neg c26] at H
    have c26b0 : (t258.toList == t251.toList) = false := beq_eq_false_iff_ne.mpr c26
    have c26b1 : (t258.toList != t251.toList) = true := bne_iff_ne.mpr c26
    (first | rw [c26b0] | rw [@decide_eq_true _ _ (of_decide_eq_true c26b1)] | rw [@decide_eq_false _ _ (of_decide_eq_false c26b1)] | (simp only [i64_w, i32_w]; rw [c26b0]) | skip)
    have H' := Aside0.mk H
    clear H
    go_wp2
    go_meet
    case rel => exact ⟨_, (true), (rs), H', ⟨by first | omega | exact Nat.le_refl _⟩, ⟨by (with_reducible repeat (first | apply Kd.R_alloc | apply Kd.R_drewN | apply Kd.R_drew)); exact Kd.R_mono HO256.out (fun _ hk => trivial)⟩, ⟨pk BK245⟩, ⟨pk BK257⟩, ⟨bw⟩⟩
  case rest =>
   clear HC11
   try clear c1
   try clear c2
   try clear p2
   try clear c3
   try clear c3b0
   try clear c10
   try clear c22
   try clear c26
   try clear c26b0
   try clear c26b1
   try clear hcz13_0
   try clear hcz13_1
   try clear hcz15_0
   try clear hcz15_1
   try clear hcz19_0
   try clear hcz19_1
   try clear hcz23_0
   try clear hcz23_1
   try clear hcz5_0
   try clear hcz5_1
   try clear hfz13_0
   try clear hfz13_1
   try clear hfz15_0
   try clear hfz15_1
   try clear hfz19_0
   try clear hfz19_1
   try clear hfz23_0
   try clear hfz23_1
   try clear hfz5_0
   try clear hfz5_1
   obtain ⟨kq, x34_10, rfl, HA, HJ10, HO_258001, BK245, BK257, HB⟩ := hcut
   cases kq with
   | zero => exact absurd HA.out (by simp [laws_FnExactSureSigns.j0])
   | succ kj10 =>
    have H := HA.out
    clear HA
    simp only [laws_FnExactSureSigns.j0] at H
    by_cases c27 : x34_10 = true
    ·subst c27
     rw [if_pos rfl] at H
     exact absurd (Option.some.inj H) (by rw [HRT.out]; decide)
    ·replace c27 := Bool.eq_false_iff.mpr c27
     subst c27
     rw [if_neg (show ¬ (false = true) by decide)] at H
     replace H := Option.bind_eq_some_iff.mp H
     obtain ⟨⟨t260, t261⟩, A280, H⟩ := H
     (try dsimp only at H)
     have A28 := Aside0.mk A280
     clear A280
     replace H := Option.bind_eq_some_iff.mp H
     obtain ⟨t264, A290, H⟩ := H
     (try dsimp only at H)
     have A29 := Aside0.mk A290
     clear A290
     by_cases c30 : t264 = true
     ·subst c30
      rw [if_pos rfl] at H
      obtain rfl := Option.some.inj H
      try go_wp2
      replace HO_258001 := Aside0.mk (Kd.R_drew HO_258001.out)
      replace BK245 := Aside0.mk (blk_drew BK245.out)
      replace BK257 := Aside0.mk (blk_drew BK257.out)
      replace HB := Aside0.mk (below_drew1 HB.out)
      refine start_ (n := 5) (S := fun w' => w'.cell? ⟨gb257, 0, none⟩ = some (.int .i64 t253) ∧ w'.cell? ⟨gb257, 1, none⟩ = some (.slice Ao24 t254.length co24) ∧ w'.cell? ⟨gb245, 0, none⟩ = some (.int .i64 a0_0) ∧ w'.cell? ⟨gb245, 1, none⟩ = some (.slice A0_1 l0_1.length c0_1)) (ds := []) #[false, false, false, false, false] (by kernel_rfl) rfl rfl ⟨ec BK257, ec BK257, ec BK245, ec BK245⟩ (fun hHeld => ?_)
      generalize wc.drew = w31 at HO_258001 BK245 BK257 HB hHeld ⊢
      refine take_ (i := 0) (N := some 35) (v := ?_) (a' := ?_) #[true, false, false, false, false] rfl rfl (by kernel_rfl) (fun _ _ _ h => h) (Or.inl ⟨by rfl, ?_⟩) hHeld ?_ ?_
      rotate_left
      ·rintro w' ⟨s0, s1, s2, s3⟩
       go_simp
       with_reducible rfl
      rotate_left
      ·simp only [Act.put, List.setIfInBounds_toArray, List.set_cons_zero, List.set_cons_succ, i64_w, i32_w]
       rfl
      refine take_ (i := 1) (N := some 36) (v := ?_) (a' := ?_) #[true, true, false, false, false] rfl rfl (by kernel_rfl) (fun _ _ _ h => h) (Or.inl ⟨by rfl, ?_⟩) hHeld ?_ ?_
      rotate_left
      ·rintro w' ⟨s0, s1, s2, s3⟩
       go_simp
       with_reducible rfl
      rotate_left
      ·simp only [Act.put, List.setIfInBounds_toArray, List.set_cons_zero, List.set_cons_succ, i64_w, i32_w]
       rfl
      refine one_ (i := 2) (N := some 37) #[true, true, true, false, false] rfl rfl (by kernel_rfl) (by decide) (fun K hK => ?_)
      refine goes_ Tryd.func29 (by kernel_rfl) rfl #[.agg #[.int .i64 a0_0, .slice A0_1 l0_1.length c0_1]] (by rfl) rfl rfl (by (try simp only [List.map_toArray, List.map_cons, List.map_nil]); first | done | rfl | (simp only [List.length_drop, List.length_take]; rfl)) ?_
      with_reducible refine (laws_toPuzzle.calls kj10 a0_0 _ _ l0_1 t260 t261 _ ?side1 ?side2 A28.out).mono ?_
      (case side1 => repeat (first | exact (Kd.C_below HR0_1.out HB.out) | (with_reducible refine Kd.C_alloc ?_ _) | (with_reducible refine Kd.C_drewN ?_ _) | (with_reducible refine Kd.C_drew ?_)))
      (case side2 => exact HC0_1.out)
      rintro e w32 ⟨v262, rfl, ho0, hb⟩
      refine ⟨_, rfl, ?_⟩
      have HO263 := Aside0.mk (Kd.R_lower (Kd.R_new' ho0 (Kd.R_lt (pr HO_258001))) (below_size bw))
      replace HO_258001 := Aside0.mk (Kd.R_elder' (pr HO_258001) (Kd.R_base ho0) hb)
      replace BK245 := nk BK245 hb
      replace BK257 := nk BK257 hb
      replace HB := bs hb
      (try clear hb)
      (try clear ho0)
      obtain ⟨Ao33, co33, eo33⟩ := Kd.R_slice HO263.out
      (first | subst eo33 | (injection eo33 with f1_ f2_ f3_; have f4_ := f1_.symm; have f5_ := f3_.symm; clear f1_ f2_ f3_; subst f4_; subst f5_))
      refine hK.out _ _ ⟨ec BK257, ec BK257, ec BK245, ec BK245⟩ (fun hHeld => ?_)
      clear hK K
      refine nm (some 37) ?_
      refine one_ (i := 3) (N := some 38) #[true, true, true, true, false] rfl rfl (by kernel_rfl) (by decide) (fun K hK => ?_)
      refine goes_ Tryd.func24 (by kernel_rfl) rfl #[.agg #[.int .i64 t253, .slice Ao24 t254.length co24], .agg #[.int .i64 t260, .slice Ao33 t261.length co33]] (by rfl) rfl rfl (by (try simp only [List.map_toArray, List.map_cons, List.map_nil]); first | done | rfl | (simp only [List.length_drop, List.length_take]; rfl)) ?_
      with_reducible refine (laws_eqPuzzle.calls kj10 t253 _ _ t254 t260 _ _ t261 true _ ?side1 ?side2 ?side3 ?side4 A29.out).mono ?_
      (case side1 => repeat (first | exact (Kd.R_reads' HO_258001.out).2.2 | (with_reducible refine Kd.C_alloc ?_ _) | (with_reducible refine Kd.C_drewN ?_ _) | (with_reducible refine Kd.C_drew ?_)))
      (case side2 => exact (Kd.R_reads' HO_258001.out).2.1)
      (case side3 => repeat (first | exact (Kd.R_reads' HO263.out).2.2 | (with_reducible refine Kd.C_alloc ?_ _) | (with_reducible refine Kd.C_drewN ?_ _) | (with_reducible refine Kd.C_drew ?_)))
      (case side4 => exact (Kd.R_reads' HO263.out).2.1)
      rintro e w34 ⟨rfl, hb⟩
      refine ⟨_, rfl, ?_⟩
      replace HO_258001 := Aside0.mk (Kd.R_below (pr HO_258001) hb)
      replace HO263 := Aside0.mk (Kd.R_below (pr HO263) hb)
      replace BK245 := nk BK245 hb
      replace BK257 := nk BK257 hb
      replace HB := bs hb
      (try clear hb)
      refine hK.out _ _ ⟨ec BK257, ec BK257, ec BK245, ec BK245⟩ (fun hHeld => ?_)
      clear hK K
      refine nm (some 38) ?_
      refine pure_ (i := 4) (N := some 39) (v := ?_) (a' := ?_) #[true, true, true, true, true] rfl rfl (by kernel_rfl) (fun _ _ _ h => h) (Or.inl ⟨by rfl, ?_⟩) ?_ ?_
      rotate_left
      ·intro w'
       go_simp
       with_reducible rfl
      rotate_left
      ·simp only [Act.put, List.setIfInBounds_toArray, List.set_cons_zero, List.set_cons_succ, i64_w, i32_w]
       rfl
      refine done_ (by kernel_rfl) ?_
      try go_wp2
      go_ret
      exact ⟨rs, bw⟩
     ·replace c30 := Bool.eq_false_iff.mpr c30
      subst c30
      rw [if_neg (show ¬ (false = true) by decide)] at H
      exact absurd (Option.some.inj H) (by rw [HRT.out]; decide)

end Go.Proofs.YtmindeeacfdonaaDoor.PFnExactSureSigns
