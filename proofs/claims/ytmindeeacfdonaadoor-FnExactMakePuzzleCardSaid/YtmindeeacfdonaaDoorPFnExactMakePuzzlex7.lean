-- Laid by xprint, a program of this session that runs over the kit's print.
import Derived.Test.YtmindeeacfdonaaDoorPFnExactMakePuzzlex0
import Derived.Test.YtmindeeacfdonaaDoorPFnExactMakePuzzlex3
import Derived.Test.YtmindeeacfdonaaDoorPFnExactMakePuzzlex5
import Derived.Test.YtmindeeacfdonaaDoorPFnExactMakePuzzlex6
namespace Go.Proofs.YtmindeeacfdonaaDoor.PFnExactMakePuzzle
open Go.RowKit Go.Proofs.YtmindeeacfdonaaDoorW.PrintWords Go.Proofs.YtmindeeacfdonaaDoorW.PrintLast Go.Proofs.YtmindeeacfdonaaDoorW.PrintMore Go.Proofs.YtmindeeacfdonaaDoor.Sq
attribute [local go_sem] max2_int min2_int max_two min_two max_three min_three max_four min_four   -- for this text's walks alone
set_option linter.unusedVariables false
set_option linter.unusedSimpArgs false

/-! ### laws_heldPuzzle: function 26 -/
def laws_heldPuzzle.f (k : Nat) (a0_0 : Int) (l0_1 : List (S33)) (a1 : Int) : Option (Int) := (laws_heldClueS.f k l0_1 a1).bind fun t203 => (if t203 < 0 then (some (-1)) else (some t203))
theorem laws_heldPuzzle.mono : ∀ a0 a1 a2 k, LeO (laws_heldPuzzle.f k a0 a1 a2) (laws_heldPuzzle.f (k + 1) a0 a1 a2) := by
  intro a0 a1 a2 k
  unfold laws_heldPuzzle.f
  repeat' first
      | (with_reducible exact laws_heldClueS.mono _ _ _)
      | (with_reducible exact LeO.refl _)
      | (with_reducible exact LeO.none _)
      | (with_reducible refine LeO.ite ?_ ?_)
      | (with_reducible refine LeO.bind ?_ (fun _ => ?_))
      | exact laws_heldClueS.mono _ _ _
      | exact LeO.none _
      | refine LeO.ite ?_ ?_
      | refine LeO.bind ?_ (fun _ => ?_)
set_option maxHeartbeats 8000000 in
set_option maxRecDepth 100000 in
theorem laws_heldPuzzle.calls (k : Nat) (a0_0 : Int) (A0_1 : Option Addr) (c0_1 : Nat) (l0_1 : List (S33)) (a1 : Int) (r : Int) (w : World) (hr0_1 : Kd.C k33 w A0_1 l0_1.length l0_1) (hc0_1 : l0_1.length ≤ c0_1) (h : laws_heldPuzzle.f k a0_0 l0_1 a1 = some r) :
  Calls Tryd.prog 26 #[.agg #[.int .i64 a0_0, .slice A0_1 l0_1.length c0_1], .int .i64 a1] w fun e w' => e = .returned (.int .i64 r) ∧ Below w.heap.size w w' := by
 have hu38 := Tryd.underlying38
 have HR0_1 := Aside0.mk hr0_1
 have HC0_1 := Aside0.mk hc0_1
 clear hr0_1 hc0_1
 have HB := Aside0.mk (Below.refl w.heap.size w)
 unfold laws_heldPuzzle.f at h
 have H := h
 clear h
 replace H := Option.bind_eq_some_iff.mp H
 obtain ⟨t203, A30, H⟩ := H
 (try dsimp only at H)
 have A3 := Aside0.mk A30
 clear A30
 by_cases c4 : t203 < 0
 ·rw [if_pos c4] at H
  have c4b0 : decide (t203 < 0) = true := decide_eq_true c4
  clear c4
  obtain rfl := Option.some.inj H
  go_enter Tryd.func26, Tryd.ntmps26
  go_wp2_with (first | ((with_reducible refine gate_dst (N := 2) rfl ?_); refine bx 2 38 #[.int .i64 a0_0, .slice A0_1 l0_1.length c0_1] ?_; intro gb202 hg w5 hbox hb; have BK202 := hbox; have GW202 := gs hg; have GE202 := gs hg; replace HB := bs hb; clear hb hbox hg; have hcz6_0 := bc BK202 0 (.int .i64 a0_0); have hcz6_1 := bc BK202 1 (.slice A0_1 l0_1.length c0_1); have hfz6_0 := blk_frozen BK202.out 0; have hfz6_1 := blk_frozen BK202.out 1) | ((with_reducible refine gate_callee (f := 70) rfl ?_); refine gl (some 8) Tryd.func70 #[.slice A0_1 l0_1.length c0_1, .int .i64 a1] ?_; (with_reducible refine (laws_heldClueS.calls k _ _ l0_1 a1 t203 _ ?side1 ?side2 A3.out).mono ?_); (case side1 => repeat (first | exact (Kd.C_below HR0_1.out HB.out) | (with_reducible refine Kd.C_alloc ?_ _) | (with_reducible refine Kd.C_drewN ?_ _) | (with_reducible refine Kd.C_drew ?_))); (case side2 => exact HC0_1.out); rintro e w' ⟨rfl, ⟨nd, rfl⟩⟩; refine ⟨_, rfl, ?_⟩))
  go_ret
  exact ⟨rs, bw⟩
 ·rw [if_neg c4] at H
  have c4b0 : decide (t203 < 0) = false := decide_eq_false c4
  clear c4
  obtain rfl := Option.some.inj H
  go_enter Tryd.func26, Tryd.ntmps26
  go_wp2_with (first | ((with_reducible refine gate_dst (N := 2) rfl ?_); refine bx 2 38 #[.int .i64 a0_0, .slice A0_1 l0_1.length c0_1] ?_; intro gb202 hg w7 hbox hb; have BK202 := hbox; have GW202 := gs hg; have GE202 := gs hg; replace HB := bs hb; clear hb hbox hg; have hcz8_0 := bc BK202 0 (.int .i64 a0_0); have hcz8_1 := bc BK202 1 (.slice A0_1 l0_1.length c0_1); have hfz8_0 := blk_frozen BK202.out 0; have hfz8_1 := blk_frozen BK202.out 1) | ((with_reducible refine gate_callee (f := 70) rfl ?_); refine gl (some 8) Tryd.func70 #[.slice A0_1 l0_1.length c0_1, .int .i64 a1] ?_; (with_reducible refine (laws_heldClueS.calls k _ _ l0_1 a1 t203 _ ?side1 ?side2 A3.out).mono ?_); (case side1 => repeat (first | exact (Kd.C_below HR0_1.out HB.out) | (with_reducible refine Kd.C_alloc ?_ _) | (with_reducible refine Kd.C_drewN ?_ _) | (with_reducible refine Kd.C_drew ?_))); (case side2 => exact HC0_1.out); rintro e w' ⟨rfl, ⟨nd, rfl⟩⟩; refine ⟨_, rfl, ?_⟩))
  go_ret
  exact ⟨rs, bw⟩

/-! ### laws_FnExactMakePuzzle: function 5 -/
mutual
def laws_FnExactMakePuzzle.j0 : Nat → ByteArray → Int → Int → Bool → Bool → Int → List (S33) → Int → List (S33) → Option (Bool)
  | 0, _, _, _, _, _, _, _, _, _ => none
  | k + 1, x0, x1, x2, x8, x40, x210000, x210001, x216000, x216001 => if x40 = true then (some false) else ((laws_markPuzzle.f k x216000 x216001 1).bind fun bt217 => ((laws_heldPuzzle.f k x216000 bt217.2 1).bind fun t219 => (if t219 < 0 then (some false) else (if t219 = bt217.1 then ((impl_MakePuzzle.f k x0 x1 x2).bind fun bt220 => ((laws_eqPuzzle.f k bt220.1 bt220.2.1 x210000 x210001).bind fun t226 => (if t226 = true then (laws_FnExactMakePuzzle.j1 k bt217.1 (bt220.2.2 != x8) x216000 bt217.2) else (laws_FnExactMakePuzzle.j1 k bt217.1 true x216000 bt217.2)))) else (some false)))))
def laws_FnExactMakePuzzle.j1 : Nat → Int → Bool → Int → List (S33) → Option (Bool)
  | 0, _, _, _, _ => none
  | k + 1, x11, x67, x216000, x216001 => if x67 = true then (some false) else ((laws_heldPuzzle.f k x216000 x216001 1).bind fun t227 => (if t227 < 0 then (some false) else (if t227 = x11 then (some true) else (some false))))
end
def laws_FnExactMakePuzzle.f (k : Nat) (a0 : ByteArray) (a1 : Int) (a2 : Int) : Option (Bool) := if (a0.size : Int) > 1048576 then (some true) else ((spec_MakePuzzle.f k a0 a1 a2).bind fun bt204 => ((impl_MakePuzzle.f k a0 a1 a2).bind fun bt210 => ((laws_eqPuzzle.f k bt210.1 bt210.2.1 bt204.1 bt204.2.1).bind fun t216 => (if t216 = true then (laws_FnExactMakePuzzle.j0 k a0 a1 a2 bt204.2.2 (bt210.2.2 != bt204.2.2) bt204.1 bt204.2.1 bt210.1 bt210.2.1) else (laws_FnExactMakePuzzle.j0 k a0 a1 a2 bt204.2.2 true bt204.1 bt204.2.1 bt210.1 bt210.2.1)))))
theorem laws_FnExactMakePuzzle.mono_l : ∀ k, (∀ y0 y1 y2 y3 y4 y5 y6 y7 y8, LeO (laws_FnExactMakePuzzle.j0 k y0 y1 y2 y3 y4 y5 y6 y7 y8) (laws_FnExactMakePuzzle.j0 (k + 1) y0 y1 y2 y3 y4 y5 y6 y7 y8)) ∧ (∀ y0 y1 y2 y3, LeO (laws_FnExactMakePuzzle.j1 k y0 y1 y2 y3) (laws_FnExactMakePuzzle.j1 (k + 1) y0 y1 y2 y3))
  | 0 => ⟨fun _ _ _ _ _ _ _ _ _ r h => by simp [laws_FnExactMakePuzzle.j0] at h, fun _ _ _ _ r h => by simp [laws_FnExactMakePuzzle.j1] at h⟩
  | k + 1 => by
    obtain ⟨ih0, ih1⟩ := laws_FnExactMakePuzzle.mono_l k
    refine ⟨?_, ?_⟩
    · intro y0 y1 y2 y3 y4 y5 y6 y7 y8
      unfold laws_FnExactMakePuzzle.j0
      repeat' first
      | (with_reducible exact ih0 _ _ _ _ _ _ _ _ _)
      | (with_reducible exact ih1 _ _ _ _)
      | (with_reducible exact impl_MakePuzzle.mono _ _ _ _)
      | (with_reducible exact laws_eqPuzzle.mono _ _ _ _ _)
      | (with_reducible exact laws_heldPuzzle.mono _ _ _ _)
      | (with_reducible exact laws_markPuzzle.mono _ _ _ _)
      | (with_reducible exact spec_MakePuzzle.mono _ _ _ _)
      | (with_reducible exact LeO.refl _)
      | (with_reducible exact LeO.none _)
      | (with_reducible refine LeO.ite ?_ ?_)
      | (with_reducible refine LeO.bind ?_ (fun _ => ?_))
      | exact ih0 _ _ _ _ _ _ _ _ _
      | exact ih1 _ _ _ _
      | exact impl_MakePuzzle.mono _ _ _ _
      | exact laws_eqPuzzle.mono _ _ _ _ _
      | exact laws_heldPuzzle.mono _ _ _ _
      | exact laws_markPuzzle.mono _ _ _ _
      | exact spec_MakePuzzle.mono _ _ _ _
      | exact LeO.none _
      | refine LeO.ite ?_ ?_
      | refine LeO.bind ?_ (fun _ => ?_)
    · intro y0 y1 y2 y3
      unfold laws_FnExactMakePuzzle.j1
      repeat' first
      | (with_reducible exact ih0 _ _ _ _ _ _ _ _ _)
      | (with_reducible exact ih1 _ _ _ _)
      | (with_reducible exact impl_MakePuzzle.mono _ _ _ _)
      | (with_reducible exact laws_eqPuzzle.mono _ _ _ _ _)
      | (with_reducible exact laws_heldPuzzle.mono _ _ _ _)
      | (with_reducible exact laws_markPuzzle.mono _ _ _ _)
      | (with_reducible exact spec_MakePuzzle.mono _ _ _ _)
      | (with_reducible exact LeO.refl _)
      | (with_reducible exact LeO.none _)
      | (with_reducible refine LeO.ite ?_ ?_)
      | (with_reducible refine LeO.bind ?_ (fun _ => ?_))
      | exact ih0 _ _ _ _ _ _ _ _ _
      | exact ih1 _ _ _ _
      | exact impl_MakePuzzle.mono _ _ _ _
      | exact laws_eqPuzzle.mono _ _ _ _ _
      | exact laws_heldPuzzle.mono _ _ _ _
      | exact laws_markPuzzle.mono _ _ _ _
      | exact spec_MakePuzzle.mono _ _ _ _
      | exact LeO.none _
      | refine LeO.ite ?_ ?_
      | refine LeO.bind ?_ (fun _ => ?_)
theorem laws_FnExactMakePuzzle.mono : ∀ a0 a1 a2 k, LeO (laws_FnExactMakePuzzle.f k a0 a1 a2) (laws_FnExactMakePuzzle.f (k + 1) a0 a1 a2) := by
  intro a0 a1 a2 k
  obtain ⟨ih0, ih1⟩ := laws_FnExactMakePuzzle.mono_l k
  unfold laws_FnExactMakePuzzle.f
  repeat' first
      | (with_reducible exact ih0 _ _ _ _ _ _ _ _ _)
      | (with_reducible exact ih1 _ _ _ _)
      | (with_reducible exact impl_MakePuzzle.mono _ _ _ _)
      | (with_reducible exact laws_eqPuzzle.mono _ _ _ _ _)
      | (with_reducible exact laws_heldPuzzle.mono _ _ _ _)
      | (with_reducible exact laws_markPuzzle.mono _ _ _ _)
      | (with_reducible exact spec_MakePuzzle.mono _ _ _ _)
      | (with_reducible exact LeO.refl _)
      | (with_reducible exact LeO.none _)
      | (with_reducible refine LeO.ite ?_ ?_)
      | (with_reducible refine LeO.bind ?_ (fun _ => ?_))
      | exact ih0 _ _ _ _ _ _ _ _ _
      | exact ih1 _ _ _ _
      | exact impl_MakePuzzle.mono _ _ _ _
      | exact laws_eqPuzzle.mono _ _ _ _ _
      | exact laws_heldPuzzle.mono _ _ _ _
      | exact laws_markPuzzle.mono _ _ _ _
      | exact spec_MakePuzzle.mono _ _ _ _
      | exact LeO.none _
      | refine LeO.ite ?_ ?_
      | refine LeO.bind ?_ (fun _ => ?_)
set_option maxHeartbeats 8000000 in
set_option maxRecDepth 100000 in
theorem laws_FnExactMakePuzzle.calls (k : Nat) (a0 : ByteArray) (a1 : Int) (a2 : Int) (r : Bool) (w : World) (hm : Dr.Tab w) (hrt : r = true) (h : laws_FnExactMakePuzzle.f k a0 a1 a2 = some r) :
  Calls Tryd.prog 5 #[.string a0, .int .i64 a1, .int .i64 a2] w fun e w' => e = .returned (.bool r) ∧ Below w.heap.size w w' := by
 have hu38 := Tryd.underlying38
 have HB := Aside0.mk (Below.refl w.heap.size w)
 have HRT := Aside0.mk hrt
 clear hrt
 have HMM := Aside0.mk hm
 clear hm
 unfold laws_FnExactMakePuzzle.f at h
 have H := h
 clear h
 by_cases c4 : (a0.size : Int) > 1048576
 ·rw [if_pos c4] at H
  have c4b0 : decide (1048576 < (a0.size : Int)) = true := decide_eq_true c4
  have c4b1 : decide (1048576 < a0.size) = true := decide_eq_true (by omega)
  clear c4
  obtain rfl := Option.some.inj H
  go_enter Tryd.func5, Tryd.ntmps5
  go_wp2
  go_ret
  exact ⟨rs, bw⟩
 ·rw [if_neg c4] at H
  have c4b0 : decide (1048576 < (a0.size : Int)) = false := decide_eq_false c4
  have c4b1 : decide (1048576 < a0.size) = false := decide_eq_false (by omega)
  clear c4
  replace H := Option.bind_eq_some_iff.mp H
  obtain ⟨⟨t204, t205, t208⟩, A50, H⟩ := H
  (try dsimp only at H)
  have A5 := Aside0.mk A50
  clear A50
  replace H := Option.bind_eq_some_iff.mp H
  obtain ⟨⟨t210, t211, t214⟩, A60, H⟩ := H
  (try dsimp only at H)
  have A6 := Aside0.mk A60
  clear A60
  have HC7 := Aside0.mk H
  clear H
  go_enter Tryd.func5, Tryd.ntmps5
  go_upto_region 5 with (first | ((with_reducible refine gate_callee (f := 22) rfl ?_); refine gl (some 22) Tryd.func22 #[.string a0, .int .i64 a1, .int .i64 a2] ?_; (with_reducible refine (spec_MakePuzzle.calls k a0 a1 a2 t204 t205 t208 _ A5.out).mono ?_); rintro e w8 ⟨v206, rfl, ho0, hb⟩; refine ⟨_, rfl, ?_⟩; have HO207 := Aside0.mk (Kd.R_lower ho0 (below_size bw)); replace HB := bs hb; (try clear hb); (try clear ho0)) | ((with_reducible refine gate_dst (N := 7) rfl ?_); refine bx 7 38 #[.int .i64 0, .slice none 0 0] ?_; intro gb209 hg w9 hbox hb; replace HO207 := Aside0.mk (Kd.R_below (pr HO207) hb); have BK209 := hbox; have GW209 := gs hg; have GE209 := gs hg; replace HB := bs hb; clear hb hbox hg; have hcz10_0 := bc BK209 0 (.int .i64 0); have hcz10_1 := bc BK209 1 (.slice none 0 0); have hfz10_0 := blk_frozen BK209.out 0; have hfz10_1 := blk_frozen BK209.out 1; obtain ⟨Ao11, co11, eo11⟩ := Kd.R_slice HO207.out; subst eo11) | ((with_reducible refine gate_callee (f := 23) rfl ?_); refine gl (some 29) Tryd.func23 #[.string a0, .int .i64 a1, .int .i64 a2] ?_; (with_reducible refine (impl_MakePuzzle.calls k a0 a1 a2 t210 t211 t214 _ ?side1 A6.out).mono ?_); (case side1 => first | exact HMM.out | exact Dr.Tab.below HMM.out bw | (repeat (first | exact HMM.out | apply Dr.Tab.drewN | apply Dr.Tab.drew | apply Dr.Tab.alloc))); rintro e w12 ⟨v212, rfl, ho0, hb⟩; refine ⟨_, rfl, ?_⟩; have HO213 := Aside0.mk (Kd.R_lower (Kd.R_new' ho0 (Kd.R_lt (by (with_reducible repeat (first | apply Kd.R_alloc | apply Kd.R_drewN | apply Kd.R_drew)); exact (Kd.R_mono (Kd.R_far (p := ⟨gb209, 1, none⟩) (Kd.R_far (p := ⟨gb209, 0, none⟩) (Kd.R_types HO207.out BK209.out (by decide)) (fun _ hk => hk.2) (.int .i64 t204)) (fun _ hk => hk.2) (.slice Ao11 t205.length co11)) (fun _ h_ => h_.1))))) (below_size bw)); replace HO207 := Aside0.mk (Kd.R_elder' (by (with_reducible repeat (first | apply Kd.R_alloc | apply Kd.R_drewN | apply Kd.R_drew)); exact (Kd.R_mono (Kd.R_far (p := ⟨gb209, 1, none⟩) (Kd.R_far (p := ⟨gb209, 0, none⟩) (Kd.R_types HO207.out BK209.out (by decide)) (fun _ hk => hk.2) (.int .i64 t204)) (fun _ hk => hk.2) (.slice Ao11 t205.length co11)) (fun _ h_ => h_.1))) (Kd.R_base ho0) hb); replace BK209 := Aside0.mk (blk_below (g := gb209) (o := .cells #[.int .i64 t204, .slice Ao11 t205.length co11] 38 (0, 0)) (by (with_reducible repeat (first | refine blk_drewN ?_ _ | refine blk_drew ?_ | refine blk_alloc ?_ _)); refine blk_put (cs := #[.int .i64 t204, .slice none 0 0]) ?_ 1 _ rfl; (with_reducible repeat (first | refine blk_drewN ?_ _ | refine blk_drew ?_ | refine blk_alloc ?_ _)); refine blk_put (cs := #[.int .i64 0, .slice none 0 0]) ?_ 0 _ rfl; (with_reducible repeat (first | refine blk_drewN ?_ _ | refine blk_drew ?_ | refine blk_alloc ?_ _)); exact BK209.out) hb); replace HB := bs hb; (try clear hb); (try clear ho0)) | ((with_reducible refine gate_dst (N := 9) rfl ?_); refine bx 9 38 #[.int .i64 0, .slice none 0 0] ?_; intro gb215 hg w13 hbox hb; replace HO207 := Aside0.mk (Kd.R_below (pr HO207) hb); replace HO213 := Aside0.mk (Kd.R_below (pr HO213) hb); have BK215 := hbox; have GW215 := gs hg; have GE215 := gs hg; replace HB := bs hb; have NB209_215 := nl BK209 hg; have NB215_209 := ng BK209 hg; replace BK209 := nk BK209 hb; clear hb hbox hg; have hnb14 := NB215_209.out; have hnc14 := NB209_215.out; have hcz15_0 := bc BK215 0 (.int .i64 0); have hcz15_1 := bc BK215 1 (.slice none 0 0); have hfz15_0 := blk_frozen BK215.out 0; have hfz15_1 := blk_frozen BK215.out 1; obtain ⟨Ao16, co16, eo16⟩ := Kd.R_slice HO213.out; subst eo16))
  (try simp only [Act.put, List.setIfInBounds_toArray, List.set_cons_zero, List.set_cons_succ])
  go_cut [40] (fun v40 wc => ∃ (kq : Nat) (x40_6 : Bool), v40 = .bool x40_6 ∧ Aside0 (laws_FnExactMakePuzzle.j0 kq a0 a1 a2 t208 x40_6 t204 t205 t210 t211 = some r) ∧ Aside0 (kq ≤ k) ∧ Aside0 (Kd.R k33 33 wc w.heap.size (fun k_ => some k_ ≠ ((.slice Ao16 t211.length co16) : Value).ownBlock) (.slice Ao11 t205.length co11) t205) ∧ Aside0 (Kd.R k33 33 wc w.heap.size (fun k_ => some k_ ≠ ((.slice Ao11 t205.length co11) : Value).ownBlock) (.slice Ao16 t211.length co16) t211) ∧ Aside0 (wc.heap[gb209]? = some (.cells #[.int .i64 t204, (.slice Ao11 t205.length co11)] 38 (0, 0))) ∧ Aside0 (wc.heap[gb215]? = some (.cells #[.int .i64 t210, (.slice Ao16 t211.length co16)] 38 (0, 0))) ∧ Aside0 (Below w.heap.size w wc))
  case first =>
   have H := HC7.out
   clear HC7
   replace H := Option.bind_eq_some_iff.mp H
   obtain ⟨t216, A170, H⟩ := H
   (try dsimp only at H)
   have A17 := Aside0.mk A170
   clear A170
   by_cases c18 : t216 = true
   ·subst c18
    rw [if_pos rfl] at H
    have H' := Aside0.mk H
    clear H
    have hnb19 := NB215_209.out
    have hnc19 := NB209_215.out
    have hcz20_0 := bc BK215 0 (.int .i64 0)
    have hcz20_1 := bc BK215 1 (.slice none 0 0)
    have hfz20_0 := blk_frozen BK215.out 0
    have hfz20_1 := blk_frozen BK215.out 1
    have hcz21_0 := bc BK209 0 (.int .i64 t204)
    have hcz21_1 := bc BK209 1 (.slice Ao11 t205.length co11)
    have hfz21_0 := blk_frozen BK209.out 0
    have hfz21_1 := blk_frozen BK209.out 1
    go_wp2_with (first | ((with_reducible refine gate_callee (f := 24) rfl ?_); refine gl (some 34) Tryd.func24 #[.agg #[.int .i64 t210, .slice Ao16 t211.length co16], .agg #[.int .i64 t204, .slice Ao11 t205.length co11]] ?_; (with_reducible refine (laws_eqPuzzle.calls k t210 _ _ t211 t204 _ _ t205 true _ ?side1 ?side2 ?side3 ?side4 A17.out).mono ?_); (case side1 => refine (Kd.R_reads' (e := 33) (base := w.heap.size) (ok := fun k_ => (True ∧ some k_ ≠ (.slice Ao11 t205.length co11 : Value).ownBlock)) (n := t211.length) (c := co16) ?_).2.2; exact (by (with_reducible repeat (first | apply Kd.R_alloc | apply Kd.R_drewN | apply Kd.R_drew)); exact (Kd.R_mono (Kd.R_far (p := ⟨gb215, 1, none⟩) (Kd.R_far (p := ⟨gb215, 0, none⟩) (Kd.R_types HO213.out BK215.out (by decide)) (fun _ hk => hk.2) (.int .i64 t210)) (fun _ hk => hk.2) (.slice Ao16 t211.length co16)) (fun _ h_ => h_.1)))); (case side2 => exact (Kd.R_reads' HO213.out).2.1); (case side3 => refine (Kd.R_reads' (e := 33) (base := w.heap.size) (ok := fun k_ => (True ∧ some k_ ≠ (.slice Ao16 t211.length co16 : Value).ownBlock)) (n := t205.length) (c := co11) ?_).2.2; exact (by (with_reducible repeat (first | apply Kd.R_alloc | apply Kd.R_drewN | apply Kd.R_drew)); exact (Kd.R_mono (Kd.R_far (p := ⟨gb215, 1, none⟩) (Kd.R_far (p := ⟨gb215, 0, none⟩) (Kd.R_types HO207.out BK215.out (by decide)) (fun _ hk => hk.2) (.int .i64 t210)) (fun _ hk => hk.2) (.slice Ao16 t211.length co16)) (fun _ h_ => h_.1)))); (case side4 => exact (Kd.R_reads' HO207.out).2.1); rintro e w22 ⟨rfl, hb⟩; refine ⟨_, rfl, ?_⟩; replace HO207 := Aside0.mk (Kd.R_below (by (with_reducible repeat (first | apply Kd.R_alloc | apply Kd.R_drewN | apply Kd.R_drew)); exact (Kd.R_mono (Kd.R_far (p := ⟨gb215, 1, none⟩) (Kd.R_far (p := ⟨gb215, 0, none⟩) (Kd.R_types HO207.out BK215.out (by decide)) (fun _ hk => hk.2) (.int .i64 t210)) (fun _ hk => hk.2) (.slice Ao16 t211.length co16)) (fun _ h_ => h_.1))) hb); replace HO213 := Aside0.mk (Kd.R_below (by (with_reducible repeat (first | apply Kd.R_alloc | apply Kd.R_drewN | apply Kd.R_drew)); exact (Kd.R_mono (Kd.R_far (p := ⟨gb215, 1, none⟩) (Kd.R_far (p := ⟨gb215, 0, none⟩) (Kd.R_types HO213.out BK215.out (by decide)) (fun _ hk => hk.2) (.int .i64 t210)) (fun _ hk => hk.2) (.slice Ao16 t211.length co16)) (fun _ h_ => h_.1))) hb); replace BK209 := Aside0.mk (blk_below (g := gb209) (o := .cells #[.int .i64 t204, .slice Ao11 t205.length co11] 38 (0, 0)) (by (with_reducible repeat (first | refine blk_drewN ?_ _ | refine blk_drew ?_ | refine blk_alloc ?_ _)); refine blk_far ?_ NB209_215.out _; (with_reducible repeat (first | refine blk_drewN ?_ _ | refine blk_drew ?_ | refine blk_alloc ?_ _)); refine blk_far ?_ NB209_215.out _; (with_reducible repeat (first | refine blk_drewN ?_ _ | refine blk_drew ?_ | refine blk_alloc ?_ _)); exact BK209.out) hb); replace BK215 := Aside0.mk (blk_below (g := gb215) (o := .cells #[.int .i64 t210, .slice Ao16 t211.length co16] 38 (0, 0)) (by (with_reducible repeat (first | refine blk_drewN ?_ _ | refine blk_drew ?_ | refine blk_alloc ?_ _)); refine blk_put (cs := #[.int .i64 t210, .slice none 0 0]) ?_ 1 _ rfl; (with_reducible repeat (first | refine blk_drewN ?_ _ | refine blk_drew ?_ | refine blk_alloc ?_ _)); refine blk_put (cs := #[.int .i64 0, .slice none 0 0]) ?_ 0 _ rfl; (with_reducible repeat (first | refine blk_drewN ?_ _ | refine blk_drew ?_ | refine blk_alloc ?_ _)); exact BK215.out) hb); replace HB := bs hb; (try clear hb)))
    go_meet
    case rel => exact ⟨_, ((t214 != t208)), (rs), H', ⟨by first | omega | exact Nat.le_refl _⟩, ⟨by (with_reducible repeat (first | apply Kd.R_alloc | apply Kd.R_drewN | apply Kd.R_drew)); exact Kd.R_mono HO207.out (fun _ hk => hk.2)⟩, ⟨by (with_reducible repeat (first | apply Kd.R_alloc | apply Kd.R_drewN | apply Kd.R_drew)); exact Kd.R_mono HO213.out (fun _ hk => hk.2)⟩, ⟨pk BK209⟩, ⟨pk BK215⟩, ⟨bw⟩⟩
   ·replace c18 := Bool.eq_false_iff.mpr c18
    subst c18
    rw [if_neg (show ¬ (false = true) by decide)] at H
    have H' := Aside0.mk H
    clear H
    have hnb23 := NB215_209.out
    have hnc23 := NB209_215.out
    have hcz24_0 := bc BK215 0 (.int .i64 0)
    have hcz24_1 := bc BK215 1 (.slice none 0 0)
    have hfz24_0 := blk_frozen BK215.out 0
    have hfz24_1 := blk_frozen BK215.out 1
    have hcz25_0 := bc BK209 0 (.int .i64 t204)
    have hcz25_1 := bc BK209 1 (.slice Ao11 t205.length co11)
    have hfz25_0 := blk_frozen BK209.out 0
    have hfz25_1 := blk_frozen BK209.out 1
    go_wp2_with (first | ((with_reducible refine gate_callee (f := 24) rfl ?_); refine gl (some 34) Tryd.func24 #[.agg #[.int .i64 t210, .slice Ao16 t211.length co16], .agg #[.int .i64 t204, .slice Ao11 t205.length co11]] ?_; (with_reducible refine (laws_eqPuzzle.calls k t210 _ _ t211 t204 _ _ t205 false _ ?side1 ?side2 ?side3 ?side4 A17.out).mono ?_); (case side1 => refine (Kd.R_reads' (e := 33) (base := w.heap.size) (ok := fun k_ => (True ∧ some k_ ≠ (.slice Ao11 t205.length co11 : Value).ownBlock)) (n := t211.length) (c := co16) ?_).2.2; exact (by (with_reducible repeat (first | apply Kd.R_alloc | apply Kd.R_drewN | apply Kd.R_drew)); exact (Kd.R_mono (Kd.R_far (p := ⟨gb215, 1, none⟩) (Kd.R_far (p := ⟨gb215, 0, none⟩) (Kd.R_types HO213.out BK215.out (by decide)) (fun _ hk => hk.2) (.int .i64 t210)) (fun _ hk => hk.2) (.slice Ao16 t211.length co16)) (fun _ h_ => h_.1)))); (case side2 => exact (Kd.R_reads' HO213.out).2.1); (case side3 => refine (Kd.R_reads' (e := 33) (base := w.heap.size) (ok := fun k_ => (True ∧ some k_ ≠ (.slice Ao16 t211.length co16 : Value).ownBlock)) (n := t205.length) (c := co11) ?_).2.2; exact (by (with_reducible repeat (first | apply Kd.R_alloc | apply Kd.R_drewN | apply Kd.R_drew)); exact (Kd.R_mono (Kd.R_far (p := ⟨gb215, 1, none⟩) (Kd.R_far (p := ⟨gb215, 0, none⟩) (Kd.R_types HO207.out BK215.out (by decide)) (fun _ hk => hk.2) (.int .i64 t210)) (fun _ hk => hk.2) (.slice Ao16 t211.length co16)) (fun _ h_ => h_.1)))); (case side4 => exact (Kd.R_reads' HO207.out).2.1); rintro e w26 ⟨rfl, hb⟩; refine ⟨_, rfl, ?_⟩; replace HO207 := Aside0.mk (Kd.R_below (by (with_reducible repeat (first | apply Kd.R_alloc | apply Kd.R_drewN | apply Kd.R_drew)); exact (Kd.R_mono (Kd.R_far (p := ⟨gb215, 1, none⟩) (Kd.R_far (p := ⟨gb215, 0, none⟩) (Kd.R_types HO207.out BK215.out (by decide)) (fun _ hk => hk.2) (.int .i64 t210)) (fun _ hk => hk.2) (.slice Ao16 t211.length co16)) (fun _ h_ => h_.1))) hb); replace HO213 := Aside0.mk (Kd.R_below (by (with_reducible repeat (first | apply Kd.R_alloc | apply Kd.R_drewN | apply Kd.R_drew)); exact (Kd.R_mono (Kd.R_far (p := ⟨gb215, 1, none⟩) (Kd.R_far (p := ⟨gb215, 0, none⟩) (Kd.R_types HO213.out BK215.out (by decide)) (fun _ hk => hk.2) (.int .i64 t210)) (fun _ hk => hk.2) (.slice Ao16 t211.length co16)) (fun _ h_ => h_.1))) hb); replace BK209 := Aside0.mk (blk_below (g := gb209) (o := .cells #[.int .i64 t204, .slice Ao11 t205.length co11] 38 (0, 0)) (by (with_reducible repeat (first | refine blk_drewN ?_ _ | refine blk_drew ?_ | refine blk_alloc ?_ _)); refine blk_far ?_ NB209_215.out _; (with_reducible repeat (first | refine blk_drewN ?_ _ | refine blk_drew ?_ | refine blk_alloc ?_ _)); refine blk_far ?_ NB209_215.out _; (with_reducible repeat (first | refine blk_drewN ?_ _ | refine blk_drew ?_ | refine blk_alloc ?_ _)); exact BK209.out) hb); replace BK215 := Aside0.mk (blk_below (g := gb215) (o := .cells #[.int .i64 t210, .slice Ao16 t211.length co16] 38 (0, 0)) (by (with_reducible repeat (first | refine blk_drewN ?_ _ | refine blk_drew ?_ | refine blk_alloc ?_ _)); refine blk_put (cs := #[.int .i64 t210, .slice none 0 0]) ?_ 1 _ rfl; (with_reducible repeat (first | refine blk_drewN ?_ _ | refine blk_drew ?_ | refine blk_alloc ?_ _)); refine blk_put (cs := #[.int .i64 0, .slice none 0 0]) ?_ 0 _ rfl; (with_reducible repeat (first | refine blk_drewN ?_ _ | refine blk_drew ?_ | refine blk_alloc ?_ _)); exact BK215.out) hb); replace HB := bs hb; (try clear hb)))
    go_meet
    case rel => exact ⟨_, (true), (rs), H', ⟨by first | omega | exact Nat.le_refl _⟩, ⟨by (with_reducible repeat (first | apply Kd.R_alloc | apply Kd.R_drewN | apply Kd.R_drew)); exact Kd.R_mono HO207.out (fun _ hk => hk.2)⟩, ⟨by (with_reducible repeat (first | apply Kd.R_alloc | apply Kd.R_drewN | apply Kd.R_drew)); exact Kd.R_mono HO213.out (fun _ hk => hk.2)⟩, ⟨pk BK209⟩, ⟨pk BK215⟩, ⟨bw⟩⟩
  case rest =>
   clear HC7
   try clear c1
   try clear c2
   try clear p2
   try clear c4
   try clear c4b0
   try clear c4b1
   try clear c5
   try clear c14
   try clear c18
   try clear c19
   try clear c22
   try clear c23
   try clear c24
   try clear hcz10_0
   try clear hcz10_1
   try clear hcz15_0
   try clear hcz15_1
   try clear hcz20_0
   try clear hcz20_1
   try clear hcz21_0
   try clear hcz21_1
   try clear hcz24_0
   try clear hcz24_1
   try clear hcz25_0
   try clear hcz25_1
   try clear hfz10_0
   try clear hfz10_1
   try clear hfz15_0
   try clear hfz15_1
   try clear hfz20_0
   try clear hfz20_1
   try clear hfz21_0
   try clear hfz21_1
   try clear hfz24_0
   try clear hfz24_1
   try clear hfz25_0
   try clear hfz25_1
   obtain ⟨kq, x40_6, rfl, HA, HJ6, HO_210001, HO_216001, BK209, BK215, HB⟩ := hcut
   cases kq with
   | zero => exact absurd HA.out (by simp [laws_FnExactMakePuzzle.j0])
   | succ kj6 =>
    have H := HA.out
    clear HA
    simp only [laws_FnExactMakePuzzle.j0] at H
    by_cases c27 : x40_6 = true
    ·subst c27
     rw [if_pos rfl] at H
     exact absurd (Option.some.inj H) (by rw [HRT.out]; decide)
    ·replace c27 := Bool.eq_false_iff.mpr c27
     subst c27
     rw [if_neg (show ¬ (false = true) by decide)] at H
     replace H := Option.bind_eq_some_iff.mp H
     obtain ⟨⟨t217, t218⟩, A280, H⟩ := H
     (try dsimp only at H)
     have A28 := Aside0.mk A280
     clear A280
     replace H := Option.bind_eq_some_iff.mp H
     obtain ⟨t219, A290, H⟩ := H
     (try dsimp only at H)
     have A29 := Aside0.mk A290
     clear A290
     by_cases c30 : t219 < 0
     ·rw [if_pos c30] at H
      have c30b0 : decide (t219 < 0) = true := decide_eq_true c30
      clear c30
      exact absurd (Option.some.inj H) (by rw [HRT.out]; decide)
     ·rw [if_neg c30] at H
      have c30b0 : decide (t219 < 0) = false := decide_eq_false c30
      clear c30
      by_cases c31 : t219 = t217
      ·rw [if_pos c31] at H
       have c31b0 : (t219 == t217) = true := beq_iff_eq.mpr c31
       have c31b1 : (t219 != t217) = false := bne_eq_false_iff_eq.mpr c31
       clear c31
       replace H := Option.bind_eq_some_iff.mp H
       obtain ⟨⟨t220, t221, t224⟩, A320, H⟩ := H
       (try dsimp only at H)
       have A32 := Aside0.mk A320
       clear A320
       have HC33 := Aside0.mk H
       clear H
       have hnb34 := NB215_209.out
       have hnc34 := NB209_215.out
       have hcz35_0 : wc.cell? ⟨gb215, 0, none⟩ = some (.int .i64 t210) := ec BK215
       have hcz35_1 : wc.cell? ⟨gb215, 1, none⟩ = some (.slice Ao16 t211.length co16) := ec BK215
       have hfz35_0 := blk_frozen BK215.out 0
       have hfz35_1 := blk_frozen BK215.out 1
       go_upto_region 16 with (first | ((with_reducible refine gate_callee (f := 25) rfl ?_); refine gl (some 43) Tryd.func25 #[.agg #[.int .i64 t210, .slice Ao16 t211.length co16], .int .i64 1] ?_; (with_reducible refine (laws_markPuzzle.calls kj6 t210 (fun k_ => some k_ = (.slice Ao16 t211.length co16 : Value).ownBlock) (.slice Ao16 t211.length co16) t211 1 t217 t218 w _ ?side1 ?side2 A28.out).mono ?_); (case side1 => repeat (first | (with_reducible first | exact HB.out | apply below_alloc | apply pw_below_drewN | apply below_drew1 | refine below_set ?_ GE209.out | refine below_set ?_ GE215.out) | exact HB.out)); (case side2 => exact Kd.R_tight rfl HO_216001.out); rintro e w36 ⟨rfl, hy0, hb, hkp⟩; refine ⟨_, rfl, ?_⟩; replace HO_210001 := Aside0.mk (Kd.R_mono (ok' := fun k_ => some k_ ≠ (.slice Ao16 t211.length co16 : Value).ownBlock) (Kd.R_keptB (HO_210001.out) hkp (fun k_ hk_ hs_ => (hk_) hs_)) (fun k_ hk_ => hk_.1)); replace BK209 := Aside0.mk (blk_kept (pk BK209) hkp (fun hs_ => (fun e_ => (Kd.R_ne HO_216001.out BK209.out (by decide)) e_) hs_)); replace BK215 := Aside0.mk (blk_kept (pk BK215) hkp (fun hs_ => (fun e_ => (Kd.R_ne HO_216001.out BK215.out (by decide)) e_) hs_)); replace HO_216001 := Aside0.mk (Kd.R_reok rfl hy0 (fun k_ e_ => HO_216001.out.1 k_ e_)); replace HB := Aside0.mk (hb); (try clear hb); (try clear hkp); (try clear hy0); have hcz37_0 := bc BK215 0 (.int .i64 t210); have hcz37_1 := bc BK215 1 (.slice Ao16 t211.length co16); have hfz37_0 := blk_frozen BK215.out 0; have hfz37_1 := blk_frozen BK215.out 1) | ((with_reducible refine gate_callee (f := 26) rfl ?_); refine goesL_ (some 46) rfl rfl Tryd.func26 (by kernel_rfl) rfl #[.agg #[.int .i64 t210, .slice Ao16 t218.length co16], .int .i64 1] rfl (by (try simp only [List.map_toArray, List.map_cons, List.map_nil]); first | done | (rw [show t218.length = t211.length from (Kd.R_reads' HO_216001.out).1.symm] <;> rfl) | rfl | (simp only [List.length_drop, List.length_take]; rfl)) ?_; (with_reducible refine (laws_heldPuzzle.calls kj6 t210 _ _ t218 1 t219 _ ?side1 ?side2 A29.out).mono ?_); (case side1 => repeat (first | exact (Kd.R_reads' HO_216001.out).2.2 | (with_reducible refine Kd.C_alloc ?_ _) | (with_reducible refine Kd.C_drewN ?_ _) | (with_reducible refine Kd.C_drew ?_))); (case side2 => rw [show t218.length = t211.length from (Kd.R_reads' HO_216001.out).1.symm]; exact (Kd.R_reads' HO_216001.out).2.1); rintro e w38 ⟨rfl, hb⟩; refine ⟨_, rfl, ?_⟩; replace HO_210001 := Aside0.mk (Kd.R_below (pr HO_210001) hb); replace HO_216001 := Aside0.mk (Kd.R_below (pr HO_216001) hb); replace BK209 := nk BK209 hb; replace BK215 := nk BK215 hb; replace HB := bs hb; (try clear hb)) | ((with_reducible refine gate_callee (f := 23) rfl ?_); refine gl (some 56) Tryd.func23 #[.string a0, .int .i64 a1, .int .i64 a2] ?_; (with_reducible refine (impl_MakePuzzle.calls kj6 a0 a1 a2 t220 t221 t224 _ ?side1 A32.out).mono ?_); (case side1 => first | exact HMM.out | exact Dr.Tab.below HMM.out bw | (repeat (first | exact HMM.out | apply Dr.Tab.drewN | apply Dr.Tab.drew | apply Dr.Tab.alloc))); rintro e w39 ⟨v222, rfl, ho0, hb⟩; refine ⟨_, rfl, ?_⟩; have HO223 := Aside0.mk (Kd.R_lower (Kd.R_new' (Kd.R_new' ho0 (Kd.R_lt (pr HO_210001))) (Kd.R_lt (pr HO_216001))) (below_size bw)); replace HO_210001 := Aside0.mk (Kd.R_elder' (pr HO_210001) (Kd.R_base ho0) hb); replace HO_216001 := Aside0.mk (Kd.R_elder' (pr HO_216001) (Kd.R_base ho0) hb); replace BK209 := nk BK209 hb; replace BK215 := nk BK215 hb; replace HB := bs hb; (try clear hb); (try clear ho0)) | ((with_reducible refine gate_dst (N := 13) rfl ?_); refine bx 13 38 #[.int .i64 0, .slice none 0 0] ?_; intro gb225 hg w40 hbox hb; replace HO_210001 := Aside0.mk (Kd.R_below (pr HO_210001) hb); replace HO_216001 := Aside0.mk (Kd.R_below (pr HO_216001) hb); replace HO223 := Aside0.mk (Kd.R_below (pr HO223) hb); have BK225 := hbox; have GW225 := gs hg; have GE225 := gs hg; replace HB := bs hb; have NB209_225 := nl BK209 hg; have NB225_209 := ng BK209 hg; replace BK209 := nk BK209 hb; have NB215_225 := nl BK215 hg; have NB225_215 := ng BK215 hg; replace BK215 := nk BK215 hb; clear hb hbox hg; have hnb41 := NB225_209.out; have hnc41 := NB209_225.out; have hnb42 := NB225_215.out; have hnc42 := NB215_225.out; have hcz43_0 := bc BK225 0 (.int .i64 0); have hcz43_1 := bc BK225 1 (.slice none 0 0); have hfz43_0 := blk_frozen BK225.out 0; have hfz43_1 := blk_frozen BK225.out 1; obtain ⟨Ao44, co44, eo44⟩ := Kd.R_slice HO223.out; subst eo44))
       (try simp only [Act.put, List.setIfInBounds_toArray, List.set_cons_zero, List.set_cons_succ])
       go_cut [67] (fun v67 wc => ∃ (kq : Nat) (x67_32 : Bool), v67 = .bool x67_32 ∧ Aside0 (laws_FnExactMakePuzzle.j1 kq t217 x67_32 t210 t218 = some r) ∧ Aside0 (kq ≤ kj6) ∧ Aside0 (Kd.R k33 33 wc w.heap.size (fun k_ => some k_ ≠ ((.slice Ao16 t211.length co16) : Value).ownBlock ∧ some k_ ≠ ((.slice Ao44 t221.length co44) : Value).ownBlock) (.slice Ao11 t205.length co11) t205) ∧ Aside0 (Kd.R k33 33 wc w.heap.size (fun k_ => some k_ ≠ ((.slice Ao11 t205.length co11) : Value).ownBlock ∧ some k_ ≠ ((.slice Ao44 t221.length co44) : Value).ownBlock) (.slice Ao16 t211.length co16) t218) ∧ Aside0 (Kd.R k33 33 wc w.heap.size (fun k_ => some k_ ≠ ((.slice Ao11 t205.length co11) : Value).ownBlock ∧ some k_ ≠ ((.slice Ao16 t211.length co16) : Value).ownBlock) (.slice Ao44 t221.length co44) t221) ∧ Aside0 (wc.heap[gb209]? = some (.cells #[.int .i64 t204, (.slice Ao11 t205.length co11)] 38 (0, 0))) ∧ Aside0 (wc.heap[gb215]? = some (.cells #[.int .i64 t210, (.slice Ao16 t211.length co16)] 38 (0, 0))) ∧ Aside0 (wc.heap[gb225]? = some (.cells #[.int .i64 t220, (.slice Ao44 t221.length co44)] 38 (0, 0))) ∧ Aside0 (Below w.heap.size w wc))
       case first =>
        have H := HC33.out
        clear HC33
        replace H := Option.bind_eq_some_iff.mp H
        obtain ⟨t226, A450, H⟩ := H
        (try dsimp only at H)
        have A45 := Aside0.mk A450
        clear A450
        by_cases c46 : t226 = true
        ·subst c46
         rw [if_pos rfl] at H
         have H' := Aside0.mk H
         clear H
         have hnb47 := NB225_209.out
         have hnc47 := NB209_225.out
         have hnb48 := NB225_215.out
         have hnc48 := NB215_225.out
         have hcz49_0 := bc BK225 0 (.int .i64 0)
         have hcz49_1 := bc BK225 1 (.slice none 0 0)
         have hfz49_0 := blk_frozen BK225.out 0
         have hfz49_1 := blk_frozen BK225.out 1
         have hnb50 := NB209_215.out
         have hnc50 := NB215_209.out
         have hcz51_0 := bc BK209 0 (.int .i64 t204)
         have hcz51_1 := bc BK209 1 (.slice Ao11 t205.length co11)
         have hfz51_0 := blk_frozen BK209.out 0
         have hfz51_1 := blk_frozen BK209.out 1
         go_wp2_with (first | ((with_reducible refine gate_callee (f := 24) rfl ?_); refine gl (some 61) Tryd.func24 #[.agg #[.int .i64 t220, .slice Ao44 t221.length co44], .agg #[.int .i64 t204, .slice Ao11 t205.length co11]] ?_; (with_reducible refine (laws_eqPuzzle.calls kj6 t220 _ _ t221 t204 _ _ t205 true _ ?side1 ?side2 ?side3 ?side4 A45.out).mono ?_); (case side1 => refine (Kd.R_reads' (e := 33) (base := w.heap.size) (ok := fun k_ => ((True ∧ some k_ ≠ (.slice Ao11 t205.length co11 : Value).ownBlock) ∧ some k_ ≠ (.slice Ao16 t211.length co16 : Value).ownBlock)) (n := t221.length) (c := co44) ?_).2.2; exact (by (with_reducible repeat (first | apply Kd.R_alloc | apply Kd.R_drewN | apply Kd.R_drew)); exact (Kd.R_mono (Kd.R_far (p := ⟨gb225, 1, none⟩) (Kd.R_far (p := ⟨gb225, 0, none⟩) (Kd.R_types HO223.out BK225.out (by decide)) (fun _ hk => hk.2) (.int .i64 t220)) (fun _ hk => hk.2) (.slice Ao44 t221.length co44)) (fun _ h_ => h_.1)))); (case side2 => exact (Kd.R_reads' HO223.out).2.1); (case side3 => refine (Kd.R_reads' (e := 33) (base := w.heap.size) (ok := fun k_ => (some k_ ≠ (.slice Ao16 t211.length co16 : Value).ownBlock ∧ some k_ ≠ (.slice Ao44 t221.length co44 : Value).ownBlock)) (n := t205.length) (c := co11) ?_).2.2; exact (by (with_reducible repeat (first | apply Kd.R_alloc | apply Kd.R_drewN | apply Kd.R_drew)); exact (Kd.R_mono (Kd.R_far (p := ⟨gb225, 1, none⟩) (Kd.R_far (p := ⟨gb225, 0, none⟩) (Kd.R_types HO_210001.out BK225.out (by decide)) (fun _ hk => hk.2) (.int .i64 t220)) (fun _ hk => hk.2) (.slice Ao44 t221.length co44)) (fun _ h_ => h_.1)))); (case side4 => exact (Kd.R_reads' HO_210001.out).2.1); rintro e w52 ⟨rfl, hb⟩; refine ⟨_, rfl, ?_⟩; replace HO_210001 := Aside0.mk (Kd.R_below (by (with_reducible repeat (first | apply Kd.R_alloc | apply Kd.R_drewN | apply Kd.R_drew)); exact (Kd.R_mono (Kd.R_far (p := ⟨gb225, 1, none⟩) (Kd.R_far (p := ⟨gb225, 0, none⟩) (Kd.R_types HO_210001.out BK225.out (by decide)) (fun _ hk => hk.2) (.int .i64 t220)) (fun _ hk => hk.2) (.slice Ao44 t221.length co44)) (fun _ h_ => h_.1))) hb); replace HO_216001 := Aside0.mk (Kd.R_below (by (with_reducible repeat (first | apply Kd.R_alloc | apply Kd.R_drewN | apply Kd.R_drew)); exact (Kd.R_mono (Kd.R_far (p := ⟨gb225, 1, none⟩) (Kd.R_far (p := ⟨gb225, 0, none⟩) (Kd.R_types HO_216001.out BK225.out (by decide)) (fun _ hk => hk.2) (.int .i64 t220)) (fun _ hk => hk.2) (.slice Ao44 t221.length co44)) (fun _ h_ => h_.1))) hb); replace HO223 := Aside0.mk (Kd.R_below (by (with_reducible repeat (first | apply Kd.R_alloc | apply Kd.R_drewN | apply Kd.R_drew)); exact (Kd.R_mono (Kd.R_far (p := ⟨gb225, 1, none⟩) (Kd.R_far (p := ⟨gb225, 0, none⟩) (Kd.R_types HO223.out BK225.out (by decide)) (fun _ hk => hk.2) (.int .i64 t220)) (fun _ hk => hk.2) (.slice Ao44 t221.length co44)) (fun _ h_ => h_.1))) hb); replace BK209 := Aside0.mk (blk_below (g := gb209) (o := .cells #[.int .i64 t204, .slice Ao11 t205.length co11] 38 (0, 0)) (by (with_reducible repeat (first | refine blk_drewN ?_ _ | refine blk_drew ?_ | refine blk_alloc ?_ _)); refine blk_far ?_ NB209_225.out _; (with_reducible repeat (first | refine blk_drewN ?_ _ | refine blk_drew ?_ | refine blk_alloc ?_ _)); refine blk_far ?_ NB209_225.out _; (with_reducible repeat (first | refine blk_drewN ?_ _ | refine blk_drew ?_ | refine blk_alloc ?_ _)); exact BK209.out) hb); replace BK215 := Aside0.mk (blk_below (g := gb215) (o := .cells #[.int .i64 t210, .slice Ao16 t211.length co16] 38 (0, 0)) (by (with_reducible repeat (first | refine blk_drewN ?_ _ | refine blk_drew ?_ | refine blk_alloc ?_ _)); refine blk_far ?_ NB215_225.out _; (with_reducible repeat (first | refine blk_drewN ?_ _ | refine blk_drew ?_ | refine blk_alloc ?_ _)); refine blk_far ?_ NB215_225.out _; (with_reducible repeat (first | refine blk_drewN ?_ _ | refine blk_drew ?_ | refine blk_alloc ?_ _)); exact BK215.out) hb); replace BK225 := Aside0.mk (blk_below (g := gb225) (o := .cells #[.int .i64 t220, .slice Ao44 t221.length co44] 38 (0, 0)) (by (with_reducible repeat (first | refine blk_drewN ?_ _ | refine blk_drew ?_ | refine blk_alloc ?_ _)); refine blk_put (cs := #[.int .i64 t220, .slice none 0 0]) ?_ 1 _ rfl; (with_reducible repeat (first | refine blk_drewN ?_ _ | refine blk_drew ?_ | refine blk_alloc ?_ _)); refine blk_put (cs := #[.int .i64 0, .slice none 0 0]) ?_ 0 _ rfl; (with_reducible repeat (first | refine blk_drewN ?_ _ | refine blk_drew ?_ | refine blk_alloc ?_ _)); exact BK225.out) hb); replace HB := bs hb; (try clear hb)))
         go_meet
         case rel => exact ⟨_, ((t224 != t208)), (rs), H', ⟨by have := HJ6.out; first | omega | exact Nat.le_refl _⟩, ⟨pr HO_210001⟩, ⟨pr HO_216001⟩, ⟨by (with_reducible repeat (first | apply Kd.R_alloc | apply Kd.R_drewN | apply Kd.R_drew)); exact Kd.R_mono HO223.out (fun _ hk => ⟨hk.1.2, hk.2⟩)⟩, ⟨pk BK209⟩, ⟨pk BK215⟩, ⟨pk BK225⟩, ⟨bw⟩⟩
        ·replace c46 := Bool.eq_false_iff.mpr c46
         subst c46
         rw [if_neg (show ¬ (false = true) by decide)] at H
         have H' := Aside0.mk H
         clear H
         have hnb53 := NB225_209.out
         have hnc53 := NB209_225.out
         have hnb54 := NB225_215.out
         have hnc54 := NB215_225.out
         have hcz55_0 := bc BK225 0 (.int .i64 0)
         have hcz55_1 := bc BK225 1 (.slice none 0 0)
         have hfz55_0 := blk_frozen BK225.out 0
         have hfz55_1 := blk_frozen BK225.out 1
         have hnb56 := NB209_215.out
         have hnc56 := NB215_209.out
         have hcz57_0 := bc BK209 0 (.int .i64 t204)
         have hcz57_1 := bc BK209 1 (.slice Ao11 t205.length co11)
         have hfz57_0 := blk_frozen BK209.out 0
         have hfz57_1 := blk_frozen BK209.out 1
         go_wp2_with (first | ((with_reducible refine gate_callee (f := 24) rfl ?_); refine gl (some 61) Tryd.func24 #[.agg #[.int .i64 t220, .slice Ao44 t221.length co44], .agg #[.int .i64 t204, .slice Ao11 t205.length co11]] ?_; (with_reducible refine (laws_eqPuzzle.calls kj6 t220 _ _ t221 t204 _ _ t205 false _ ?side1 ?side2 ?side3 ?side4 A45.out).mono ?_); (case side1 => refine (Kd.R_reads' (e := 33) (base := w.heap.size) (ok := fun k_ => ((True ∧ some k_ ≠ (.slice Ao11 t205.length co11 : Value).ownBlock) ∧ some k_ ≠ (.slice Ao16 t211.length co16 : Value).ownBlock)) (n := t221.length) (c := co44) ?_).2.2; exact (by (with_reducible repeat (first | apply Kd.R_alloc | apply Kd.R_drewN | apply Kd.R_drew)); exact (Kd.R_mono (Kd.R_far (p := ⟨gb225, 1, none⟩) (Kd.R_far (p := ⟨gb225, 0, none⟩) (Kd.R_types HO223.out BK225.out (by decide)) (fun _ hk => hk.2) (.int .i64 t220)) (fun _ hk => hk.2) (.slice Ao44 t221.length co44)) (fun _ h_ => h_.1)))); (case side2 => exact (Kd.R_reads' HO223.out).2.1); (case side3 => refine (Kd.R_reads' (e := 33) (base := w.heap.size) (ok := fun k_ => (some k_ ≠ (.slice Ao16 t211.length co16 : Value).ownBlock ∧ some k_ ≠ (.slice Ao44 t221.length co44 : Value).ownBlock)) (n := t205.length) (c := co11) ?_).2.2; exact (by (with_reducible repeat (first | apply Kd.R_alloc | apply Kd.R_drewN | apply Kd.R_drew)); exact (Kd.R_mono (Kd.R_far (p := ⟨gb225, 1, none⟩) (Kd.R_far (p := ⟨gb225, 0, none⟩) (Kd.R_types HO_210001.out BK225.out (by decide)) (fun _ hk => hk.2) (.int .i64 t220)) (fun _ hk => hk.2) (.slice Ao44 t221.length co44)) (fun _ h_ => h_.1)))); (case side4 => exact (Kd.R_reads' HO_210001.out).2.1); rintro e w58 ⟨rfl, hb⟩; refine ⟨_, rfl, ?_⟩; replace HO_210001 := Aside0.mk (Kd.R_below (by (with_reducible repeat (first | apply Kd.R_alloc | apply Kd.R_drewN | apply Kd.R_drew)); exact (Kd.R_mono (Kd.R_far (p := ⟨gb225, 1, none⟩) (Kd.R_far (p := ⟨gb225, 0, none⟩) (Kd.R_types HO_210001.out BK225.out (by decide)) (fun _ hk => hk.2) (.int .i64 t220)) (fun _ hk => hk.2) (.slice Ao44 t221.length co44)) (fun _ h_ => h_.1))) hb); replace HO_216001 := Aside0.mk (Kd.R_below (by (with_reducible repeat (first | apply Kd.R_alloc | apply Kd.R_drewN | apply Kd.R_drew)); exact (Kd.R_mono (Kd.R_far (p := ⟨gb225, 1, none⟩) (Kd.R_far (p := ⟨gb225, 0, none⟩) (Kd.R_types HO_216001.out BK225.out (by decide)) (fun _ hk => hk.2) (.int .i64 t220)) (fun _ hk => hk.2) (.slice Ao44 t221.length co44)) (fun _ h_ => h_.1))) hb); replace HO223 := Aside0.mk (Kd.R_below (by (with_reducible repeat (first | apply Kd.R_alloc | apply Kd.R_drewN | apply Kd.R_drew)); exact (Kd.R_mono (Kd.R_far (p := ⟨gb225, 1, none⟩) (Kd.R_far (p := ⟨gb225, 0, none⟩) (Kd.R_types HO223.out BK225.out (by decide)) (fun _ hk => hk.2) (.int .i64 t220)) (fun _ hk => hk.2) (.slice Ao44 t221.length co44)) (fun _ h_ => h_.1))) hb); replace BK209 := Aside0.mk (blk_below (g := gb209) (o := .cells #[.int .i64 t204, .slice Ao11 t205.length co11] 38 (0, 0)) (by (with_reducible repeat (first | refine blk_drewN ?_ _ | refine blk_drew ?_ | refine blk_alloc ?_ _)); refine blk_far ?_ NB209_225.out _; (with_reducible repeat (first | refine blk_drewN ?_ _ | refine blk_drew ?_ | refine blk_alloc ?_ _)); refine blk_far ?_ NB209_225.out _; (with_reducible repeat (first | refine blk_drewN ?_ _ | refine blk_drew ?_ | refine blk_alloc ?_ _)); exact BK209.out) hb); replace BK215 := Aside0.mk (blk_below (g := gb215) (o := .cells #[.int .i64 t210, .slice Ao16 t211.length co16] 38 (0, 0)) (by (with_reducible repeat (first | refine blk_drewN ?_ _ | refine blk_drew ?_ | refine blk_alloc ?_ _)); refine blk_far ?_ NB215_225.out _; (with_reducible repeat (first | refine blk_drewN ?_ _ | refine blk_drew ?_ | refine blk_alloc ?_ _)); refine blk_far ?_ NB215_225.out _; (with_reducible repeat (first | refine blk_drewN ?_ _ | refine blk_drew ?_ | refine blk_alloc ?_ _)); exact BK215.out) hb); replace BK225 := Aside0.mk (blk_below (g := gb225) (o := .cells #[.int .i64 t220, .slice Ao44 t221.length co44] 38 (0, 0)) (by (with_reducible repeat (first | refine blk_drewN ?_ _ | refine blk_drew ?_ | refine blk_alloc ?_ _)); refine blk_put (cs := #[.int .i64 t220, .slice none 0 0]) ?_ 1 _ rfl; (with_reducible repeat (first | refine blk_drewN ?_ _ | refine blk_drew ?_ | refine blk_alloc ?_ _)); refine blk_put (cs := #[.int .i64 0, .slice none 0 0]) ?_ 0 _ rfl; (with_reducible repeat (first | refine blk_drewN ?_ _ | refine blk_drew ?_ | refine blk_alloc ?_ _)); exact BK225.out) hb); replace HB := bs hb; (try clear hb)))
         go_meet
         case rel => exact ⟨_, (true), (rs), H', ⟨by have := HJ6.out; first | omega | exact Nat.le_refl _⟩, ⟨pr HO_210001⟩, ⟨pr HO_216001⟩, ⟨by (with_reducible repeat (first | apply Kd.R_alloc | apply Kd.R_drewN | apply Kd.R_drew)); exact Kd.R_mono HO223.out (fun _ hk => ⟨hk.1.2, hk.2⟩)⟩, ⟨pk BK209⟩, ⟨pk BK215⟩, ⟨pk BK225⟩, ⟨bw⟩⟩
       case rest =>
        clear HC33
        try clear c1
        try clear c2
        try clear p2
        try clear c3
        try clear c4
        try clear c4b0
        try clear c4b1
        try clear c5
        try clear c14
        try clear c18
        try clear c19
        try clear c22
        try clear c23
        try clear c24
        try clear c25
        try clear c26
        try clear c27
        try clear c30
        try clear c30b0
        try clear c31
        try clear c31b0
        try clear c31b1
        try clear c34
        try clear c41
        try clear c42
        try clear c46
        try clear c47
        try clear c48
        try clear c50
        try clear c53
        try clear c54
        try clear c56
        try clear hcz10_0
        try clear hcz10_1
        try clear hcz15_0
        try clear hcz15_1
        try clear hcz20_0
        try clear hcz20_1
        try clear hcz21_0
        try clear hcz21_1
        try clear hcz24_0
        try clear hcz24_1
        try clear hcz25_0
        try clear hcz25_1
        try clear hcz35_0
        try clear hcz35_1
        try clear hcz37_0
        try clear hcz37_1
        try clear hcz43_0
        try clear hcz43_1
        try clear hcz49_0
        try clear hcz49_1
        try clear hcz51_0
        try clear hcz51_1
        try clear hcz55_0
        try clear hcz55_1
        try clear hcz57_0
        try clear hcz57_1
        try clear hfz10_0
        try clear hfz10_1
        try clear hfz15_0
        try clear hfz15_1
        try clear hfz20_0
        try clear hfz20_1
        try clear hfz21_0
        try clear hfz21_1
        try clear hfz24_0
        try clear hfz24_1
        try clear hfz25_0
        try clear hfz25_1
        try clear hfz35_0
        try clear hfz35_1
        try clear hfz37_0
        try clear hfz37_1
        try clear hfz43_0
        try clear hfz43_1
        try clear hfz49_0
        try clear hfz49_1
        try clear hfz51_0
        try clear hfz51_1
        try clear hfz55_0
        try clear hfz55_1
        try clear hfz57_0
        try clear hfz57_1
        try clear p2
        obtain ⟨kq, x67_32, rfl, HA, HJ32, HO_210001, HO_216001, HO_226001, BK209, BK215, BK225, HB⟩ := hcut
        have hl216001_32 := (Kd.R_reads' HO_216001.out).1
        rw [hl216001_32] at HO_216001
        (try simp only [hl216001_32])
        (try simp only [hl216001_32] at BK209)
        (try simp only [hl216001_32] at BK215)
        (try simp only [hl216001_32] at BK225)
        (try simp only [hl216001_32] at HO_210001)
        (try simp only [hl216001_32] at HO_226001)
        cases kq with
        | zero => exact absurd HA.out (by simp [laws_FnExactMakePuzzle.j1])
        | succ kj32 =>
         have H := HA.out
         clear HA
         simp only [laws_FnExactMakePuzzle.j1] at H
         by_cases c59 : x67_32 = true
         ·subst c59
          rw [if_pos rfl] at H
          exact absurd (Option.some.inj H) (by rw [HRT.out]; decide)
         ·replace c59 := Bool.eq_false_iff.mpr c59
          subst c59
          rw [if_neg (show ¬ (false = true) by decide)] at H
          replace H := Option.bind_eq_some_iff.mp H
          obtain ⟨t227, A600, H⟩ := H
          (try dsimp only at H)
          have A60 := Aside0.mk A600
          clear A600
          by_cases c61 : t227 < 0
          ·rw [if_pos c61] at H
           have c61b0 : decide (t227 < 0) = true := decide_eq_true c61
           clear c61
           exact absurd (Option.some.inj H) (by rw [HRT.out]; decide)
          ·rw [if_neg c61] at H
           have c61b0 : decide (t227 < 0) = false := decide_eq_false c61
           clear c61
           by_cases c62 : t227 = t217
           ·rw [if_pos c62] at H
            have c62b0 : (t227 == t217) = true := beq_iff_eq.mpr c62
            have c62b1 : (t227 != t217) = false := bne_eq_false_iff_eq.mpr c62
            clear c62
            obtain rfl := Option.some.inj H
            have hnb63 := NB215_209.out
            have hnc63 := NB209_215.out
            have hnb64 := NB215_225.out
            have hnc64 := NB225_215.out
            have hcz65_0 : wc.cell? ⟨gb215, 0, none⟩ = some (.int .i64 t210) := ec BK215
            have hcz65_1 : wc.cell? ⟨gb215, 1, none⟩ = some (.slice Ao16 t218.length co16) := ec BK215
            have hfz65_0 := blk_frozen BK215.out 0
            have hfz65_1 := blk_frozen BK215.out 1
            go_wp2_with (first | ((with_reducible refine gate_callee (f := 26) rfl ?_); refine gl (some 70) Tryd.func26 #[.agg #[.int .i64 t210, .slice Ao16 t218.length co16], .int .i64 1] ?_; (with_reducible refine (laws_heldPuzzle.calls kj32 t210 _ _ t218 1 t227 _ ?side1 ?side2 A60.out).mono ?_); (case side1 => repeat (first | exact (Kd.R_reads' HO_216001.out).2.2 | (with_reducible refine Kd.C_alloc ?_ _) | (with_reducible refine Kd.C_drewN ?_ _) | (with_reducible refine Kd.C_drew ?_))); (case side2 => exact (Kd.R_reads' HO_216001.out).2.1); rintro e w66 ⟨rfl, hb⟩; refine ⟨_, rfl, ?_⟩; replace HO_210001 := Aside0.mk (Kd.R_below (pr HO_210001) hb); replace HO_216001 := Aside0.mk (Kd.R_below (pr HO_216001) hb); replace HO_226001 := Aside0.mk (Kd.R_below (pr HO_226001) hb); replace BK209 := nk BK209 hb; replace BK215 := nk BK215 hb; replace BK225 := nk BK225 hb; replace HB := bs hb; (try clear hb)))
            go_ret
            exact ⟨rs, bw⟩
           ·rw [if_neg c62] at H
            have c62b0 : (t227 == t217) = false := beq_eq_false_iff_ne.mpr c62
            have c62b1 : (t227 != t217) = true := bne_iff_ne.mpr c62
            exact absurd (Option.some.inj H) (by rw [HRT.out]; decide)
      ·rw [if_neg c31] at H
       have c31b0 : (t219 == t217) = false := beq_eq_false_iff_ne.mpr c31
       have c31b1 : (t219 != t217) = true := bne_iff_ne.mpr c31
       exact absurd (Option.some.inj H) (by rw [HRT.out]; decide)

end Go.Proofs.YtmindeeacfdonaaDoor.PFnExactMakePuzzle
