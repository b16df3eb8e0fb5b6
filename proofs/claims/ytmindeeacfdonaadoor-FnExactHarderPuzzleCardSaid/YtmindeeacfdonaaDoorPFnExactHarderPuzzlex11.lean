-- Laid by xprint, a program of this session that runs over the kit's print.
import Derived.Test.YtmindeeacfdonaaDoorPFnExactHarderPuzzlex0
import Derived.Test.YtmindeeacfdonaaDoorPFnExactHarderPuzzlex2
import Derived.Test.YtmindeeacfdonaaDoorPFnExactHarderPuzzlex3
import Derived.Test.YtmindeeacfdonaaDoorPFnExactHarderPuzzlex6
import Derived.Test.YtmindeeacfdonaaDoorPFnExactHarderPuzzlex10
namespace Go.Proofs.YtmindeeacfdonaaDoor.PFnExactHarderPuzzle
open Go.RowKit Go.Proofs.YtmindeeacfdonaaDoorW.PrintWords Go.Proofs.YtmindeeacfdonaaDoorW.PrintLast Go.Proofs.YtmindeeacfdonaaDoorW.PrintMore Go.Proofs.YtmindeeacfdonaaDoor.Sq
attribute [local go_sem] max2_int min2_int max_two min_two max_three min_three max_four min_four   -- for this text's walks alone
set_option linter.unusedVariables false
set_option linter.unusedSimpArgs false

/-! ### laws_FnExactHarderPuzzle: function 14 -/
mutual
def laws_FnExactHarderPuzzle.j0 : Nat → Bool → Bool → Bool → Int → List (S30) → Int → List (S33) → Int → List (S33) → Int → List (S33) → Option (Bool)
  | 0, _, _, _, _, _, _, _, _, _, _, _ => none
  | k + 1, x5, x8, x40, x305000, x305001, x316000, x316001, x321000, x321001, x327000, x327001 => if x40 = true then (some false) else ((laws_toPuzzle.f k x305000 x305001).bind fun bt328 => ((laws_eqPuzzle.f k x321000 x321001 bt328.1 bt328.2).bind fun t332 => (if t332 = true then ((laws_markPuzzle.f k x321000 x321001 1).bind fun bt333 => (if bt333.1 < 0 then (laws_FnExactHarderPuzzle.j1 k x5 true x305000 x305001 x316000 x316001 x327000 x327001) else ((laws_eqPuzzle.f k x327000 x327001 x316000 x316001).bind fun t335 => (if t335 = true then (laws_FnExactHarderPuzzle.j1 k x5 (x8 != x5) x305000 x305001 x316000 x316001 x327000 x327001) else (laws_FnExactHarderPuzzle.j1 k x5 true x305000 x305001 x316000 x316001 x327000 x327001))))) else (some false))))
def laws_FnExactHarderPuzzle.j1 : Nat → Bool → Bool → Int → List (S30) → Int → List (S33) → Int → List (S33) → Option (Bool)
  | 0, _, _, _, _, _, _, _, _ => none
  | k + 1, x5, x61, x305000, x305001, x316000, x316001, x327000, x327001 => if x61 = true then (some false) else ((laws_markPuzzle.f k x327000 x327001 1).bind fun bt336 => ((laws_heldPuzzle.f k x327000 bt336.2 1).bind fun t338 => (if t338 < 0 then (some false) else (if t338 = bt336.1 then ((laws_toPuzzle.f k x305000 x305001).bind fun bt339 => ((impl_HarderPuzzle.f k bt339.1 bt339.2).bind fun bt343 => ((laws_eqPuzzle.f k bt343.1 bt343.2.1 x316000 x316001).bind fun t349 => (if t349 = true then (laws_FnExactHarderPuzzle.j2 k bt336.1 (bt343.2.2 != x5) x327000 bt336.2) else (laws_FnExactHarderPuzzle.j2 k bt336.1 true x327000 bt336.2))))) else (some false)))))
def laws_FnExactHarderPuzzle.j2 : Nat → Int → Bool → Int → List (S33) → Option (Bool)
  | 0, _, _, _, _ => none
  | k + 1, x10, x87, x327000, x327001 => if x87 = true then (some false) else ((laws_heldPuzzle.f k x327000 x327001 1).bind fun t350 => (if t350 < 0 then (some false) else (if t350 = x10 then (some true) else (some false))))
end
def laws_FnExactHarderPuzzle.f (k : Nat) (a0_0 : Int) (l0_1 : List (S30)) : Option (Bool) := (laws_szPuzzle.f a0_0 l0_1 1048576).bind fun t305 => (if t305 < 0 then (some true) else ((laws_toPuzzle.f k a0_0 l0_1).bind fun bt306 => ((spec_HarderPuzzle.f k bt306.1 bt306.2).bind fun bt310 => ((laws_toPuzzle.f k a0_0 l0_1).bind fun bt316 => ((impl_HarderPuzzle.f k bt316.1 bt316.2).bind fun bt321 => ((laws_eqPuzzle.f k bt321.1 bt321.2.1 bt310.1 bt310.2.1).bind fun t327 => (if t327 = true then (laws_FnExactHarderPuzzle.j0 k bt310.2.2 bt321.2.2 (bt321.2.2 != bt310.2.2) a0_0 l0_1 bt310.1 bt310.2.1 bt316.1 bt316.2 bt321.1 bt321.2.1) else (laws_FnExactHarderPuzzle.j0 k bt310.2.2 bt321.2.2 true a0_0 l0_1 bt310.1 bt310.2.1 bt316.1 bt316.2 bt321.1 bt321.2.1))))))))
theorem laws_FnExactHarderPuzzle.mono_l : ∀ k, (∀ y0 y1 y2 y3 y4 y5 y6 y7 y8 y9 y10, LeO (laws_FnExactHarderPuzzle.j0 k y0 y1 y2 y3 y4 y5 y6 y7 y8 y9 y10) (laws_FnExactHarderPuzzle.j0 (k + 1) y0 y1 y2 y3 y4 y5 y6 y7 y8 y9 y10)) ∧ (∀ y0 y1 y2 y3 y4 y5 y6 y7, LeO (laws_FnExactHarderPuzzle.j1 k y0 y1 y2 y3 y4 y5 y6 y7) (laws_FnExactHarderPuzzle.j1 (k + 1) y0 y1 y2 y3 y4 y5 y6 y7)) ∧ (∀ y0 y1 y2 y3, LeO (laws_FnExactHarderPuzzle.j2 k y0 y1 y2 y3) (laws_FnExactHarderPuzzle.j2 (k + 1) y0 y1 y2 y3))
  | 0 => ⟨fun _ _ _ _ _ _ _ _ _ _ _ r h => by simp [laws_FnExactHarderPuzzle.j0] at h, fun _ _ _ _ _ _ _ _ r h => by simp [laws_FnExactHarderPuzzle.j1] at h, fun _ _ _ _ r h => by simp [laws_FnExactHarderPuzzle.j2] at h⟩
  | k + 1 => by
    obtain ⟨ih0, ih1, ih2⟩ := laws_FnExactHarderPuzzle.mono_l k
    refine ⟨?_, ?_, ?_⟩
    · intro y0 y1 y2 y3 y4 y5 y6 y7 y8 y9 y10
      unfold laws_FnExactHarderPuzzle.j0
      repeat' first
      | (with_reducible exact ih0 _ _ _ _ _ _ _ _ _ _ _)
      | (with_reducible exact ih1 _ _ _ _ _ _ _ _)
      | (with_reducible exact ih2 _ _ _ _)
      | (with_reducible exact impl_HarderPuzzle.mono _ _ _)
      | (with_reducible exact laws_eqPuzzle.mono _ _ _ _ _)
      | (with_reducible exact laws_heldPuzzle.mono _ _ _ _)
      | (with_reducible exact laws_markPuzzle.mono _ _ _ _)
      | (with_reducible exact laws_toPuzzle.mono _ _ _)
      | (with_reducible exact spec_HarderPuzzle.mono _ _ _)
      | (with_reducible exact LeO.refl _)
      | (with_reducible exact LeO.none _)
      | (with_reducible refine LeO.ite ?_ ?_)
      | (with_reducible refine LeO.bind ?_ (fun _ => ?_))
      | exact ih0 _ _ _ _ _ _ _ _ _ _ _
      | exact ih1 _ _ _ _ _ _ _ _
      | exact ih2 _ _ _ _
      | exact impl_HarderPuzzle.mono _ _ _
      | exact laws_eqPuzzle.mono _ _ _ _ _
      | exact laws_heldPuzzle.mono _ _ _ _
      | exact laws_markPuzzle.mono _ _ _ _
      | exact laws_toPuzzle.mono _ _ _
      | exact spec_HarderPuzzle.mono _ _ _
      | exact LeO.none _
      | refine LeO.ite ?_ ?_
      | refine LeO.bind ?_ (fun _ => ?_)
    · intro y0 y1 y2 y3 y4 y5 y6 y7
      unfold laws_FnExactHarderPuzzle.j1
      repeat' first
      | (with_reducible exact ih0 _ _ _ _ _ _ _ _ _ _ _)
      | (with_reducible exact ih1 _ _ _ _ _ _ _ _)
      | (with_reducible exact ih2 _ _ _ _)
      | (with_reducible exact impl_HarderPuzzle.mono _ _ _)
      | (with_reducible exact laws_eqPuzzle.mono _ _ _ _ _)
      | (with_reducible exact laws_heldPuzzle.mono _ _ _ _)
      | (with_reducible exact laws_markPuzzle.mono _ _ _ _)
      | (with_reducible exact laws_toPuzzle.mono _ _ _)
      | (with_reducible exact spec_HarderPuzzle.mono _ _ _)
      | (with_reducible exact LeO.refl _)
      | (with_reducible exact LeO.none _)
      | (with_reducible refine LeO.ite ?_ ?_)
      | (with_reducible refine LeO.bind ?_ (fun _ => ?_))
      | exact ih0 _ _ _ _ _ _ _ _ _ _ _
      | exact ih1 _ _ _ _ _ _ _ _
      | exact ih2 _ _ _ _
      | exact impl_HarderPuzzle.mono _ _ _
      | exact laws_eqPuzzle.mono _ _ _ _ _
      | exact laws_heldPuzzle.mono _ _ _ _
      | exact laws_markPuzzle.mono _ _ _ _
      | exact laws_toPuzzle.mono _ _ _
      | exact spec_HarderPuzzle.mono _ _ _
      | exact LeO.none _
      | refine LeO.ite ?_ ?_
      | refine LeO.bind ?_ (fun _ => ?_)
    · intro y0 y1 y2 y3
      unfold laws_FnExactHarderPuzzle.j2
      repeat' first
      | (with_reducible exact ih0 _ _ _ _ _ _ _ _ _ _ _)
      | (with_reducible exact ih1 _ _ _ _ _ _ _ _)
      | (with_reducible exact ih2 _ _ _ _)
      | (with_reducible exact impl_HarderPuzzle.mono _ _ _)
      | (with_reducible exact laws_eqPuzzle.mono _ _ _ _ _)
      | (with_reducible exact laws_heldPuzzle.mono _ _ _ _)
      | (with_reducible exact laws_markPuzzle.mono _ _ _ _)
      | (with_reducible exact laws_toPuzzle.mono _ _ _)
      | (with_reducible exact spec_HarderPuzzle.mono _ _ _)
      | (with_reducible exact LeO.refl _)
      | (with_reducible exact LeO.none _)
      | (with_reducible refine LeO.ite ?_ ?_)
      | (with_reducible refine LeO.bind ?_ (fun _ => ?_))
      | exact ih0 _ _ _ _ _ _ _ _ _ _ _
      | exact ih1 _ _ _ _ _ _ _ _
      | exact ih2 _ _ _ _
      | exact impl_HarderPuzzle.mono _ _ _
      | exact laws_eqPuzzle.mono _ _ _ _ _
      | exact laws_heldPuzzle.mono _ _ _ _
      | exact laws_markPuzzle.mono _ _ _ _
      | exact laws_toPuzzle.mono _ _ _
      | exact spec_HarderPuzzle.mono _ _ _
      | exact LeO.none _
      | refine LeO.ite ?_ ?_
      | refine LeO.bind ?_ (fun _ => ?_)
theorem laws_FnExactHarderPuzzle.mono : ∀ a0 a1 k, LeO (laws_FnExactHarderPuzzle.f k a0 a1) (laws_FnExactHarderPuzzle.f (k + 1) a0 a1) := by
  intro a0 a1 k
  obtain ⟨ih0, ih1, ih2⟩ := laws_FnExactHarderPuzzle.mono_l k
  unfold laws_FnExactHarderPuzzle.f
  repeat' first
      | (with_reducible exact ih0 _ _ _ _ _ _ _ _ _ _ _)
      | (with_reducible exact ih1 _ _ _ _ _ _ _ _)
      | (with_reducible exact ih2 _ _ _ _)
      | (with_reducible exact impl_HarderPuzzle.mono _ _ _)
      | (with_reducible exact laws_eqPuzzle.mono _ _ _ _ _)
      | (with_reducible exact laws_heldPuzzle.mono _ _ _ _)
      | (with_reducible exact laws_markPuzzle.mono _ _ _ _)
      | (with_reducible exact laws_toPuzzle.mono _ _ _)
      | (with_reducible exact spec_HarderPuzzle.mono _ _ _)
      | (with_reducible exact LeO.refl _)
      | (with_reducible exact LeO.none _)
      | (with_reducible refine LeO.ite ?_ ?_)
      | (with_reducible refine LeO.bind ?_ (fun _ => ?_))
      | exact ih0 _ _ _ _ _ _ _ _ _ _ _
      | exact ih1 _ _ _ _ _ _ _ _
      | exact ih2 _ _ _ _
      | exact impl_HarderPuzzle.mono _ _ _
      | exact laws_eqPuzzle.mono _ _ _ _ _
      | exact laws_heldPuzzle.mono _ _ _ _
      | exact laws_markPuzzle.mono _ _ _ _
      | exact laws_toPuzzle.mono _ _ _
      | exact spec_HarderPuzzle.mono _ _ _
      | exact LeO.none _
      | refine LeO.ite ?_ ?_
      | refine LeO.bind ?_ (fun _ => ?_)
set_option maxHeartbeats 8000000 in
set_option maxRecDepth 100000 in
theorem laws_FnExactHarderPuzzle.calls (k : Nat) (a0_0 : Int) (A0_1 : Option Addr) (c0_1 : Nat) (l0_1 : List (S30)) (r : Bool) (w : World) (hm : Dr.Tab w) (hr0_1 : Kd.C k30 w A0_1 l0_1.length l0_1) (hc0_1 : l0_1.length ≤ c0_1) (hrt : r = true) (h : laws_FnExactHarderPuzzle.f k a0_0 l0_1 = some r) :
  Calls Tryd.prog 14 #[.agg #[.int .i64 a0_0, .slice A0_1 l0_1.length c0_1]] w fun e w' => e = .returned (.bool r) ∧ Below w.heap.size w w' := by
 have hu46 := Tryd.underlying46
 have hu38 := Tryd.underlying38
 have HR0_1 := Aside0.mk hr0_1
 have HC0_1 := Aside0.mk hc0_1
 clear hr0_1 hc0_1
 have HB := Aside0.mk (Below.refl w.heap.size w)
 have HRT := Aside0.mk hrt
 clear hrt
 have HMM := Aside0.mk hm
 clear hm
 unfold laws_FnExactHarderPuzzle.f at h
 have H := h
 clear h
 replace H := Option.bind_eq_some_iff.mp H
 obtain ⟨t305, A20, H⟩ := H
 (try dsimp only at H)
 have A2 := Aside0.mk A20
 clear A20
 by_cases c3 : t305 < 0
 ·rw [if_pos c3] at H
  have c3b0 : decide (t305 < 0) = true := decide_eq_true c3
  clear c3
  obtain rfl := Option.some.inj H
  go_enter Tryd.func14, Tryd.ntmps14
  go_wp2_with (first | ((with_reducible refine gate_dst (N := 1) rfl ?_); refine bx 1 46 #[.int .i64 a0_0, .slice A0_1 l0_1.length c0_1] ?_; intro gb304 hg w4 hbox hb; have BK304 := hbox; have GW304 := gs hg; have GE304 := gs hg; replace HB := bs hb; clear hb hbox hg; have hcz5_0 := bc BK304 0 (.int .i64 a0_0); have hcz5_1 := bc BK304 1 (.slice A0_1 l0_1.length c0_1); have hfz5_0 := blk_frozen BK304.out 0; have hfz5_1 := blk_frozen BK304.out 1) | ((with_reducible refine gate_callee (f := 27) rfl ?_); refine gl (some 16) Tryd.func27 #[.agg #[.int .i64 a0_0, .slice A0_1 l0_1.length c0_1], .int .i64 1048576] ?_; (with_reducible refine (laws_szPuzzle.calls a0_0 _ _ l0_1 1048576 t305 _ ?side1 ?side2 A2.out).mono ?_); (case side1 => repeat (first | exact (Kd.C_below HR0_1.out HB.out) | (with_reducible refine Kd.C_alloc ?_ _) | (with_reducible refine Kd.C_drewN ?_ _) | (with_reducible refine Kd.C_drew ?_))); (case side2 => exact HC0_1.out); rintro e w6 ⟨rfl, hb⟩; refine ⟨_, rfl, ?_⟩; replace BK304 := nk BK304 hb; replace HB := bs hb; (try clear hb)))
  go_ret
  exact ⟨rs, bw⟩
 ·rw [if_neg c3] at H
  have c3b0 : decide (t305 < 0) = false := decide_eq_false c3
  clear c3
  replace H := Option.bind_eq_some_iff.mp H
  obtain ⟨⟨t306, t307⟩, A70, H⟩ := H
  (try dsimp only at H)
  have A7 := Aside0.mk A70
  clear A70
  replace H := Option.bind_eq_some_iff.mp H
  obtain ⟨⟨t310, t311, t314⟩, A80, H⟩ := H
  (try dsimp only at H)
  have A8 := Aside0.mk A80
  clear A80
  replace H := Option.bind_eq_some_iff.mp H
  obtain ⟨⟨t316, t317⟩, A90, H⟩ := H
  (try dsimp only at H)
  have A9 := Aside0.mk A90
  clear A90
  replace H := Option.bind_eq_some_iff.mp H
  obtain ⟨⟨t321, t322, t325⟩, A100, H⟩ := H
  (try dsimp only at H)
  have A10 := Aside0.mk A100
  clear A100
  have HC11 := Aside0.mk H
  clear H
  go_enter Tryd.func14, Tryd.ntmps14
  go_upto_region 8 with (first | ((with_reducible refine gate_dst (N := 1) rfl ?_); refine bx 1 46 #[.int .i64 a0_0, .slice A0_1 l0_1.length c0_1] ?_; intro gb304 hg w12 hbox hb; have BK304 := hbox; have GW304 := gs hg; have GE304 := gs hg; replace HB := bs hb; clear hb hbox hg; have hcz13_0 := bc BK304 0 (.int .i64 a0_0); have hcz13_1 := bc BK304 1 (.slice A0_1 l0_1.length c0_1); have hfz13_0 := blk_frozen BK304.out 0; have hfz13_1 := blk_frozen BK304.out 1) | ((with_reducible refine gate_callee (f := 27) rfl ?_); refine gl (some 16) Tryd.func27 #[.agg #[.int .i64 a0_0, .slice A0_1 l0_1.length c0_1], .int .i64 1048576] ?_; (with_reducible refine (laws_szPuzzle.calls a0_0 _ _ l0_1 1048576 t305 _ ?side1 ?side2 A2.out).mono ?_); (case side1 => repeat (first | exact (Kd.C_below HR0_1.out HB.out) | (with_reducible refine Kd.C_alloc ?_ _) | (with_reducible refine Kd.C_drewN ?_ _) | (with_reducible refine Kd.C_drew ?_))); (case side2 => exact HC0_1.out); rintro e w14 ⟨rfl, hb⟩; refine ⟨_, rfl, ?_⟩; replace BK304 := nk BK304 hb; replace HB := bs hb; (try clear hb); have hcz15_0 := bc BK304 0 (.int .i64 a0_0); have hcz15_1 := bc BK304 1 (.slice A0_1 l0_1.length c0_1); have hfz15_0 := blk_frozen BK304.out 0; have hfz15_1 := blk_frozen BK304.out 1) | ((with_reducible refine gate_callee (f := 29) rfl ?_); refine gl (some 21) Tryd.func29 #[.agg #[.int .i64 a0_0, .slice A0_1 l0_1.length c0_1]] ?_; (with_reducible refine (laws_toPuzzle.calls k a0_0 _ _ l0_1 t306 t307 _ ?side1 ?side2 A7.out).mono ?_); (case side1 => repeat (first | exact (Kd.C_below HR0_1.out HB.out) | (with_reducible refine Kd.C_alloc ?_ _) | (with_reducible refine Kd.C_drewN ?_ _) | (with_reducible refine Kd.C_drew ?_))); (case side2 => exact HC0_1.out); rintro e w16 ⟨v308, rfl, ho0, hb⟩; refine ⟨_, rfl, ?_⟩; have HO309 := Aside0.mk (Kd.R_lower ho0 (below_size bw)); replace BK304 := nk BK304 hb; replace HB := bs hb; (try clear hb); (try clear ho0); obtain ⟨Ao17, co17, eo17⟩ := Kd.R_slice HO309.out; subst eo17) | ((with_reducible refine gate_callee (f := 51) rfl ?_); refine gl (some 22) Tryd.func51 #[.agg #[.int .i64 t306, .slice Ao17 t307.length co17]] ?_; (with_reducible refine (spec_HarderPuzzle.calls k t306 _ _ t307 t310 t311 t314 _ ?side1 ?side2 A8.out).mono ?_); (case side1 => repeat (first | exact (Kd.R_reads' HO309.out).2.2 | (with_reducible refine Kd.C_alloc ?_ _) | (with_reducible refine Kd.C_drewN ?_ _) | (with_reducible refine Kd.C_drew ?_))); (case side2 => exact (Kd.R_reads' HO309.out).2.1); rintro e w18 ⟨v312, rfl, ho0, hb⟩; refine ⟨_, rfl, ?_⟩; have HO313 := Aside0.mk (Kd.R_lower (Kd.R_new' ho0 (Kd.R_lt (pr HO309))) (below_size bw)); replace HO309 := Aside0.mk (Kd.R_elder' (pr HO309) (Kd.R_base ho0) hb); replace BK304 := nk BK304 hb; replace HB := bs hb; (try clear hb); (try clear ho0)) | ((with_reducible refine gate_dst (N := 4) rfl ?_); refine bx 4 38 #[.int .i64 0, .slice none 0 0] ?_; intro gb315 hg w19 hbox hb; replace HO309 := Aside0.mk (Kd.R_below (pr HO309) hb); replace HO313 := Aside0.mk (Kd.R_below (pr HO313) hb); have BK315 := hbox; have GW315 := gs hg; have GE315 := gs hg; replace HB := bs hb; have NB304_315 := nl BK304 hg; have NB315_304 := ng BK304 hg; replace BK304 := nk BK304 hb; clear hb hbox hg; have hnb20 := NB315_304.out; have hnc20 := NB304_315.out; have hcz21_0 := bc BK315 0 (.int .i64 0); have hcz21_1 := bc BK315 1 (.slice none 0 0); have hfz21_0 := blk_frozen BK315.out 0; have hfz21_1 := blk_frozen BK315.out 1; obtain ⟨Ao22, co22, eo22⟩ := Kd.R_slice HO313.out; subst eo22; have hcz23_0 := bc BK304 0 (.int .i64 a0_0); have hcz23_1 := bc BK304 1 (.slice A0_1 l0_1.length c0_1); have hfz23_0 := blk_frozen BK304.out 0; have hfz23_1 := blk_frozen BK304.out 1) | ((with_reducible refine gate_callee (f := 29) rfl ?_); refine gl (some 26) Tryd.func29 #[.agg #[.int .i64 a0_0, .slice A0_1 l0_1.length c0_1]] ?_; (with_reducible refine (laws_toPuzzle.calls k a0_0 _ _ l0_1 t316 t317 _ ?side1 ?side2 A9.out).mono ?_); (case side1 => exact Kd.C_below HR0_1.out bw); (case side2 => exact HC0_1.out); rintro e w24 ⟨v318, rfl, ho0, hb⟩; refine ⟨_, rfl, ?_⟩; have HO319 := Aside0.mk (Kd.R_lower (Kd.R_new' (Kd.R_new' ho0 (Kd.R_lt (by (with_reducible repeat (first | apply Kd.R_alloc | apply Kd.R_drewN | apply Kd.R_drew)); exact (Kd.R_mono (Kd.R_far (p := ⟨gb315, 1, none⟩) (Kd.R_far (p := ⟨gb315, 0, none⟩) (Kd.R_types HO309.out BK315.out (by decide)) (fun _ hk => hk.2) (.int .i64 t310)) (fun _ hk => hk.2) (.slice Ao22 t311.length co22)) (fun _ h_ => h_.1))))) (Kd.R_lt (by (with_reducible repeat (first | apply Kd.R_alloc | apply Kd.R_drewN | apply Kd.R_drew)); exact (Kd.R_mono (Kd.R_far (p := ⟨gb315, 1, none⟩) (Kd.R_far (p := ⟨gb315, 0, none⟩) (Kd.R_types HO313.out BK315.out (by decide)) (fun _ hk => hk.2) (.int .i64 t310)) (fun _ hk => hk.2) (.slice Ao22 t311.length co22)) (fun _ h_ => h_.1))))) (below_size bw)); replace HO309 := Aside0.mk (Kd.R_elder' (by (with_reducible repeat (first | apply Kd.R_alloc | apply Kd.R_drewN | apply Kd.R_drew)); exact (Kd.R_mono (Kd.R_far (p := ⟨gb315, 1, none⟩) (Kd.R_far (p := ⟨gb315, 0, none⟩) (Kd.R_types HO309.out BK315.out (by decide)) (fun _ hk => hk.2) (.int .i64 t310)) (fun _ hk => hk.2) (.slice Ao22 t311.length co22)) (fun _ h_ => h_.1))) (Kd.R_base ho0) hb); replace HO313 := Aside0.mk (Kd.R_elder' (by (with_reducible repeat (first | apply Kd.R_alloc | apply Kd.R_drewN | apply Kd.R_drew)); exact (Kd.R_mono (Kd.R_far (p := ⟨gb315, 1, none⟩) (Kd.R_far (p := ⟨gb315, 0, none⟩) (Kd.R_types HO313.out BK315.out (by decide)) (fun _ hk => hk.2) (.int .i64 t310)) (fun _ hk => hk.2) (.slice Ao22 t311.length co22)) (fun _ h_ => h_.1))) (Kd.R_base ho0) hb); replace BK304 := Aside0.mk (blk_below (g := gb304) (o := .cells #[.int .i64 a0_0, .slice A0_1 l0_1.length c0_1] 46 (0, 0)) (by (with_reducible repeat (first | refine blk_drewN ?_ _ | refine blk_drew ?_ | refine blk_alloc ?_ _)); refine blk_far ?_ NB304_315.out _; (with_reducible repeat (first | refine blk_drewN ?_ _ | refine blk_drew ?_ | refine blk_alloc ?_ _)); refine blk_far ?_ NB304_315.out _; (with_reducible repeat (first | refine blk_drewN ?_ _ | refine blk_drew ?_ | refine blk_alloc ?_ _)); exact BK304.out) hb); replace BK315 := Aside0.mk (blk_below (g := gb315) (o := .cells #[.int .i64 t310, .slice Ao22 t311.length co22] 38 (0, 0)) (by (with_reducible repeat (first | refine blk_drewN ?_ _ | refine blk_drew ?_ | refine blk_alloc ?_ _)); refine blk_put (cs := #[.int .i64 t310, .slice none 0 0]) ?_ 1 _ rfl; (with_reducible repeat (first | refine blk_drewN ?_ _ | refine blk_drew ?_ | refine blk_alloc ?_ _)); refine blk_put (cs := #[.int .i64 0, .slice none 0 0]) ?_ 0 _ rfl; (with_reducible repeat (first | refine blk_drewN ?_ _ | refine blk_drew ?_ | refine blk_alloc ?_ _)); exact BK315.out) hb); replace HB := bs hb; (try clear hb); (try clear ho0)) | ((with_reducible refine gate_dst (N := 6) rfl ?_); refine bx 6 38 #[.int .i64 0, .slice none 0 0] ?_; intro gb320 hg w25 hbox hb; replace HO309 := Aside0.mk (Kd.R_below (pr HO309) hb); replace HO313 := Aside0.mk (Kd.R_below (pr HO313) hb); replace HO319 := Aside0.mk (Kd.R_below (pr HO319) hb); have BK320 := hbox; have GW320 := gs hg; have GE320 := gs hg; replace HB := bs hb; have NB304_320 := nl BK304 hg; have NB320_304 := ng BK304 hg; replace BK304 := nk BK304 hb; have NB315_320 := nl BK315 hg; have NB320_315 := ng BK315 hg; replace BK315 := nk BK315 hb; clear hb hbox hg; have hnb26 := NB320_304.out; have hnc26 := NB304_320.out; have hnb27 := NB320_315.out; have hnc27 := NB315_320.out; have hcz28_0 := bc BK320 0 (.int .i64 0); have hcz28_1 := bc BK320 1 (.slice none 0 0); have hfz28_0 := blk_frozen BK320.out 0; have hfz28_1 := blk_frozen BK320.out 1; obtain ⟨Ao29, co29, eo29⟩ := Kd.R_slice HO319.out; subst eo29) | ((with_reducible refine gate_callee (f := 52) rfl ?_); refine gl (some 29) Tryd.func52 #[.agg #[.int .i64 t316, .slice Ao29 t317.length co29]] ?_; (with_reducible refine (impl_HarderPuzzle.calls k t316 _ _ t317 t321 t322 t325 _ ?side1 ?side2 ?side3 A10.out).mono ?_); (case side1 => first | exact HMM.out | exact Dr.Tab.below HMM.out bw | (repeat (first | exact HMM.out | apply Dr.Tab.drewN | apply Dr.Tab.drew | apply Dr.Tab.alloc))); (case side2 => refine (Kd.R_reads' (e := 33) (base := w.heap.size) (ok := fun k_ => ((True ∧ some k_ ≠ (.slice Ao17 t307.length co17 : Value).ownBlock) ∧ some k_ ≠ (.slice Ao22 t311.length co22 : Value).ownBlock)) (n := t317.length) (c := co29) ?_).2.2; exact (by (with_reducible repeat (first | apply Kd.R_alloc | apply Kd.R_drewN | apply Kd.R_drew)); exact (Kd.R_mono (Kd.R_far (p := ⟨gb320, 1, none⟩) (Kd.R_far (p := ⟨gb320, 0, none⟩) (Kd.R_types HO319.out BK320.out (by decide)) (fun _ hk => hk.2) (.int .i64 t316)) (fun _ hk => hk.2) (.slice Ao29 t317.length co29)) (fun _ h_ => h_.1)))); (case side3 => exact (Kd.R_reads' HO319.out).2.1); rintro e w30 ⟨v323, rfl, ho0, hb⟩; refine ⟨_, rfl, ?_⟩; have HO324 := Aside0.mk (Kd.R_lower (Kd.R_new' (Kd.R_new' (Kd.R_new' ho0 (Kd.R_lt (by (with_reducible repeat (first | apply Kd.R_alloc | apply Kd.R_drewN | apply Kd.R_drew)); exact (Kd.R_mono (Kd.R_far (p := ⟨gb320, 1, none⟩) (Kd.R_far (p := ⟨gb320, 0, none⟩) (Kd.R_types HO309.out BK320.out (by decide)) (fun _ hk => hk.2) (.int .i64 t316)) (fun _ hk => hk.2) (.slice Ao29 t317.length co29)) (fun _ h_ => h_.1))))) (Kd.R_lt (by (with_reducible repeat (first | apply Kd.R_alloc | apply Kd.R_drewN | apply Kd.R_drew)); exact (Kd.R_mono (Kd.R_far (p := ⟨gb320, 1, none⟩) (Kd.R_far (p := ⟨gb320, 0, none⟩) (Kd.R_types HO313.out BK320.out (by decide)) (fun _ hk => hk.2) (.int .i64 t316)) (fun _ hk => hk.2) (.slice Ao29 t317.length co29)) (fun _ h_ => h_.1))))) (Kd.R_lt (by (with_reducible repeat (first | apply Kd.R_alloc | apply Kd.R_drewN | apply Kd.R_drew)); exact (Kd.R_mono (Kd.R_far (p := ⟨gb320, 1, none⟩) (Kd.R_far (p := ⟨gb320, 0, none⟩) (Kd.R_types HO319.out BK320.out (by decide)) (fun _ hk => hk.2) (.int .i64 t316)) (fun _ hk => hk.2) (.slice Ao29 t317.length co29)) (fun _ h_ => h_.1))))) (below_size bw)); replace HO309 := Aside0.mk (Kd.R_elder' (by (with_reducible repeat (first | apply Kd.R_alloc | apply Kd.R_drewN | apply Kd.R_drew)); exact (Kd.R_mono (Kd.R_far (p := ⟨gb320, 1, none⟩) (Kd.R_far (p := ⟨gb320, 0, none⟩) (Kd.R_types HO309.out BK320.out (by decide)) (fun _ hk => hk.2) (.int .i64 t316)) (fun _ hk => hk.2) (.slice Ao29 t317.length co29)) (fun _ h_ => h_.1))) (Kd.R_base ho0) hb); replace HO313 := Aside0.mk (Kd.R_elder' (by (with_reducible repeat (first | apply Kd.R_alloc | apply Kd.R_drewN | apply Kd.R_drew)); exact (Kd.R_mono (Kd.R_far (p := ⟨gb320, 1, none⟩) (Kd.R_far (p := ⟨gb320, 0, none⟩) (Kd.R_types HO313.out BK320.out (by decide)) (fun _ hk => hk.2) (.int .i64 t316)) (fun _ hk => hk.2) (.slice Ao29 t317.length co29)) (fun _ h_ => h_.1))) (Kd.R_base ho0) hb); replace HO319 := Aside0.mk (Kd.R_elder' (by (with_reducible repeat (first | apply Kd.R_alloc | apply Kd.R_drewN | apply Kd.R_drew)); exact (Kd.R_mono (Kd.R_far (p := ⟨gb320, 1, none⟩) (Kd.R_far (p := ⟨gb320, 0, none⟩) (Kd.R_types HO319.out BK320.out (by decide)) (fun _ hk => hk.2) (.int .i64 t316)) (fun _ hk => hk.2) (.slice Ao29 t317.length co29)) (fun _ h_ => h_.1))) (Kd.R_base ho0) hb); replace BK304 := Aside0.mk (blk_below (g := gb304) (o := .cells #[.int .i64 a0_0, .slice A0_1 l0_1.length c0_1] 46 (0, 0)) (by (with_reducible repeat (first | refine blk_drewN ?_ _ | refine blk_drew ?_ | refine blk_alloc ?_ _)); refine blk_far ?_ NB304_320.out _; (with_reducible repeat (first | refine blk_drewN ?_ _ | refine blk_drew ?_ | refine blk_alloc ?_ _)); refine blk_far ?_ NB304_320.out _; (with_reducible repeat (first | refine blk_drewN ?_ _ | refine blk_drew ?_ | refine blk_alloc ?_ _)); exact BK304.out) hb); replace BK315 := Aside0.mk (blk_below (g := gb315) (o := .cells #[.int .i64 t310, .slice Ao22 t311.length co22] 38 (0, 0)) (by (with_reducible repeat (first | refine blk_drewN ?_ _ | refine blk_drew ?_ | refine blk_alloc ?_ _)); refine blk_far ?_ NB315_320.out _; (with_reducible repeat (first | refine blk_drewN ?_ _ | refine blk_drew ?_ | refine blk_alloc ?_ _)); refine blk_far ?_ NB315_320.out _; (with_reducible repeat (first | refine blk_drewN ?_ _ | refine blk_drew ?_ | refine blk_alloc ?_ _)); exact BK315.out) hb); replace BK320 := Aside0.mk (blk_below (g := gb320) (o := .cells #[.int .i64 t316, .slice Ao29 t317.length co29] 38 (0, 0)) (by (with_reducible repeat (first | refine blk_drewN ?_ _ | refine blk_drew ?_ | refine blk_alloc ?_ _)); refine blk_put (cs := #[.int .i64 t316, .slice none 0 0]) ?_ 1 _ rfl; (with_reducible repeat (first | refine blk_drewN ?_ _ | refine blk_drew ?_ | refine blk_alloc ?_ _)); refine blk_put (cs := #[.int .i64 0, .slice none 0 0]) ?_ 0 _ rfl; (with_reducible repeat (first | refine blk_drewN ?_ _ | refine blk_drew ?_ | refine blk_alloc ?_ _)); exact BK320.out) hb); replace HB := bs hb; (try clear hb); (try clear ho0)) | ((with_reducible refine gate_dst (N := 7) rfl ?_); refine bx 7 38 #[.int .i64 0, .slice none 0 0] ?_; intro gb326 hg w31 hbox hb; replace HO309 := Aside0.mk (Kd.R_below (pr HO309) hb); replace HO313 := Aside0.mk (Kd.R_below (pr HO313) hb); replace HO319 := Aside0.mk (Kd.R_below (pr HO319) hb); replace HO324 := Aside0.mk (Kd.R_below (pr HO324) hb); have BK326 := hbox; have GW326 := gs hg; have GE326 := gs hg; replace HB := bs hb; have NB304_326 := nl BK304 hg; have NB326_304 := ng BK304 hg; replace BK304 := nk BK304 hb; have NB315_326 := nl BK315 hg; have NB326_315 := ng BK315 hg; replace BK315 := nk BK315 hb; have NB320_326 := nl BK320 hg; have NB326_320 := ng BK320 hg; replace BK320 := nk BK320 hb; clear hb hbox hg; have hnb32 := NB326_304.out; have hnc32 := NB304_326.out; have hnb33 := NB326_315.out; have hnc33 := NB315_326.out; have hnb34 := NB326_320.out; have hnc34 := NB320_326.out; have hcz35_0 := bc BK326 0 (.int .i64 0); have hcz35_1 := bc BK326 1 (.slice none 0 0); have hfz35_0 := blk_frozen BK326.out 0; have hfz35_1 := blk_frozen BK326.out 1; obtain ⟨Ao36, co36, eo36⟩ := Kd.R_slice HO324.out; subst eo36))
  (try simp only [Act.put, List.setIfInBounds_toArray, List.set_cons_zero, List.set_cons_succ])
  go_cut [40] (fun v40 wc => ∃ (kq : Nat) (x40_10 : Bool), v40 = .bool x40_10 ∧ Aside0 (laws_FnExactHarderPuzzle.j0 kq t314 t325 x40_10 a0_0 l0_1 t310 t311 t316 t317 t321 t322 = some r) ∧ Aside0 (kq ≤ k) ∧ Aside0 (Kd.R k33 33 wc w.heap.size (fun k_ => some k_ ≠ ((.slice Ao29 t317.length co29) : Value).ownBlock ∧ some k_ ≠ ((.slice Ao36 t322.length co36) : Value).ownBlock) (.slice Ao22 t311.length co22) t311) ∧ Aside0 (Kd.R k33 33 wc w.heap.size (fun k_ => some k_ ≠ ((.slice Ao22 t311.length co22) : Value).ownBlock ∧ some k_ ≠ ((.slice Ao36 t322.length co36) : Value).ownBlock) (.slice Ao29 t317.length co29) t317) ∧ Aside0 (Kd.R k33 33 wc w.heap.size (fun k_ => some k_ ≠ ((.slice Ao22 t311.length co22) : Value).ownBlock ∧ some k_ ≠ ((.slice Ao29 t317.length co29) : Value).ownBlock) (.slice Ao36 t322.length co36) t322) ∧ Aside0 (wc.heap[gb304]? = some (.cells #[.int .i64 a0_0, (.slice A0_1 l0_1.length c0_1)] 46 (0, 0))) ∧ Aside0 (wc.heap[gb315]? = some (.cells #[.int .i64 t310, (.slice Ao22 t311.length co22)] 38 (0, 0))) ∧ Aside0 (wc.heap[gb320]? = some (.cells #[.int .i64 t316, (.slice Ao29 t317.length co29)] 38 (0, 0))) ∧ Aside0 (wc.heap[gb326]? = some (.cells #[.int .i64 t321, (.slice Ao36 t322.length co36)] 38 (0, 0))) ∧ Aside0 (Below w.heap.size w wc))
  case first =>
   have H := HC11.out
   clear HC11
   replace H := Option.bind_eq_some_iff.mp H
   obtain ⟨t327, A370, H⟩ := H
   (try dsimp only at H)
   have A37 := Aside0.mk A370
   clear A370
   by_cases c38 : t327 = true
   ·subst c38
    rw [if_pos rfl] at H
    have H' := Aside0.mk H
    clear H
    have hnb39 := NB326_304.out
    have hnc39 := NB304_326.out
    have hnb40 := NB326_315.out
    have hnc40 := NB315_326.out
    have hnb41 := NB326_320.out
    have hnc41 := NB320_326.out
    have hcz42_0 := bc BK326 0 (.int .i64 0)
    have hcz42_1 := bc BK326 1 (.slice none 0 0)
    have hfz42_0 := blk_frozen BK326.out 0
    have hfz42_1 := blk_frozen BK326.out 1
    have hnb43 := NB315_304.out
    have hnc43 := NB304_315.out
    have hnb44 := NB315_320.out
    have hnc44 := NB320_315.out
    have hcz45_0 := bc BK315 0 (.int .i64 t310)
    have hcz45_1 := bc BK315 1 (.slice Ao22 t311.length co22)
    have hfz45_0 := blk_frozen BK315.out 0
    have hfz45_1 := blk_frozen BK315.out 1
    go_wp2_with (first | ((with_reducible refine gate_callee (f := 24) rfl ?_); refine gl (some 34) Tryd.func24 #[.agg #[.int .i64 t321, .slice Ao36 t322.length co36], .agg #[.int .i64 t310, .slice Ao22 t311.length co22]] ?_; (with_reducible refine (laws_eqPuzzle.calls k t321 _ _ t322 t310 _ _ t311 true _ ?side1 ?side2 ?side3 ?side4 A37.out).mono ?_); (case side1 => refine (Kd.R_reads' (e := 33) (base := w.heap.size) (ok := fun k_ => (((True ∧ some k_ ≠ (.slice Ao17 t307.length co17 : Value).ownBlock) ∧ some k_ ≠ (.slice Ao22 t311.length co22 : Value).ownBlock) ∧ some k_ ≠ (.slice Ao29 t317.length co29 : Value).ownBlock)) (n := t322.length) (c := co36) ?_).2.2; exact (by (with_reducible repeat (first | apply Kd.R_alloc | apply Kd.R_drewN | apply Kd.R_drew)); exact (Kd.R_mono (Kd.R_far (p := ⟨gb326, 1, none⟩) (Kd.R_far (p := ⟨gb326, 0, none⟩) (Kd.R_types HO324.out BK326.out (by decide)) (fun _ hk => hk.2) (.int .i64 t321)) (fun _ hk => hk.2) (.slice Ao36 t322.length co36)) (fun _ h_ => h_.1)))); (case side2 => exact (Kd.R_reads' HO324.out).2.1); (case side3 => refine (Kd.R_reads' (e := 33) (base := w.heap.size) (ok := fun k_ => (((True ∧ some k_ ≠ (.slice Ao17 t307.length co17 : Value).ownBlock) ∧ some k_ ≠ (.slice Ao29 t317.length co29 : Value).ownBlock) ∧ some k_ ≠ (.slice Ao36 t322.length co36 : Value).ownBlock)) (n := t311.length) (c := co22) ?_).2.2; exact (by (with_reducible repeat (first | apply Kd.R_alloc | apply Kd.R_drewN | apply Kd.R_drew)); exact (Kd.R_mono (Kd.R_far (p := ⟨gb326, 1, none⟩) (Kd.R_far (p := ⟨gb326, 0, none⟩) (Kd.R_types HO313.out BK326.out (by decide)) (fun _ hk => hk.2) (.int .i64 t321)) (fun _ hk => hk.2) (.slice Ao36 t322.length co36)) (fun _ h_ => h_.1)))); (case side4 => exact (Kd.R_reads' HO313.out).2.1); rintro e w46 ⟨rfl, hb⟩; refine ⟨_, rfl, ?_⟩; replace HO309 := Aside0.mk (Kd.R_below (by (with_reducible repeat (first | apply Kd.R_alloc | apply Kd.R_drewN | apply Kd.R_drew)); exact (Kd.R_mono (Kd.R_far (p := ⟨gb326, 1, none⟩) (Kd.R_far (p := ⟨gb326, 0, none⟩) (Kd.R_types HO309.out BK326.out (by decide)) (fun _ hk => hk.2) (.int .i64 t321)) (fun _ hk => hk.2) (.slice Ao36 t322.length co36)) (fun _ h_ => h_.1))) hb); replace HO313 := Aside0.mk (Kd.R_below (by (with_reducible repeat (first | apply Kd.R_alloc | apply Kd.R_drewN | apply Kd.R_drew)); exact (Kd.R_mono (Kd.R_far (p := ⟨gb326, 1, none⟩) (Kd.R_far (p := ⟨gb326, 0, none⟩) (Kd.R_types HO313.out BK326.out (by decide)) (fun _ hk => hk.2) (.int .i64 t321)) (fun _ hk => hk.2) (.slice Ao36 t322.length co36)) (fun _ h_ => h_.1))) hb); replace HO319 := Aside0.mk (Kd.R_below (by (with_reducible repeat (first | apply Kd.R_alloc | apply Kd.R_drewN | apply Kd.R_drew)); exact (Kd.R_mono (Kd.R_far (p := ⟨gb326, 1, none⟩) (Kd.R_far (p := ⟨gb326, 0, none⟩) (Kd.R_types HO319.out BK326.out (by decide)) (fun _ hk => hk.2) (.int .i64 t321)) (fun _ hk => hk.2) (.slice Ao36 t322.length co36)) (fun _ h_ => h_.1))) hb); replace HO324 := Aside0.mk (Kd.R_below (by (with_reducible repeat (first | apply Kd.R_alloc | apply Kd.R_drewN | apply Kd.R_drew)); exact (Kd.R_mono (Kd.R_far (p := ⟨gb326, 1, none⟩) (Kd.R_far (p := ⟨gb326, 0, none⟩) (Kd.R_types HO324.out BK326.out (by decide)) (fun _ hk => hk.2) (.int .i64 t321)) (fun _ hk => hk.2) (.slice Ao36 t322.length co36)) (fun _ h_ => h_.1))) hb); replace BK304 := Aside0.mk (blk_below (g := gb304) (o := .cells #[.int .i64 a0_0, .slice A0_1 l0_1.length c0_1] 46 (0, 0)) (by (with_reducible repeat (first | refine blk_drewN ?_ _ | refine blk_drew ?_ | refine blk_alloc ?_ _)); refine blk_far ?_ NB304_326.out _; (with_reducible repeat (first | refine blk_drewN ?_ _ | refine blk_drew ?_ | refine blk_alloc ?_ _)); refine blk_far ?_ NB304_326.out _; (with_reducible repeat (first | refine blk_drewN ?_ _ | refine blk_drew ?_ | refine blk_alloc ?_ _)); exact BK304.out) hb); replace BK315 := Aside0.mk (blk_below (g := gb315) (o := .cells #[.int .i64 t310, .slice Ao22 t311.length co22] 38 (0, 0)) (by (with_reducible repeat (first | refine blk_drewN ?_ _ | refine blk_drew ?_ | refine blk_alloc ?_ _)); refine blk_far ?_ NB315_326.out _; (with_reducible repeat (first | refine blk_drewN ?_ _ | refine blk_drew ?_ | refine blk_alloc ?_ _)); refine blk_far ?_ NB315_326.out _; (with_reducible repeat (first | refine blk_drewN ?_ _ | refine blk_drew ?_ | refine blk_alloc ?_ _)); exact BK315.out) hb); replace BK320 := Aside0.mk (blk_below (g := gb320) (o := .cells #[.int .i64 t316, .slice Ao29 t317.length co29] 38 (0, 0)) (by (with_reducible repeat (first | refine blk_drewN ?_ _ | refine blk_drew ?_ | refine blk_alloc ?_ _)); refine blk_far ?_ NB320_326.out _; (with_reducible repeat (first | refine blk_drewN ?_ _ | refine blk_drew ?_ | refine blk_alloc ?_ _)); refine blk_far ?_ NB320_326.out _; (with_reducible repeat (first | refine blk_drewN ?_ _ | refine blk_drew ?_ | refine blk_alloc ?_ _)); exact BK320.out) hb); replace BK326 := Aside0.mk (blk_below (g := gb326) (o := .cells #[.int .i64 t321, .slice Ao36 t322.length co36] 38 (0, 0)) (by (with_reducible repeat (first | refine blk_drewN ?_ _ | refine blk_drew ?_ | refine blk_alloc ?_ _)); refine blk_put (cs := #[.int .i64 t321, .slice none 0 0]) ?_ 1 _ rfl; (with_reducible repeat (first | refine blk_drewN ?_ _ | refine blk_drew ?_ | refine blk_alloc ?_ _)); refine blk_put (cs := #[.int .i64 0, .slice none 0 0]) ?_ 0 _ rfl; (with_reducible repeat (first | refine blk_drewN ?_ _ | refine blk_drew ?_ | refine blk_alloc ?_ _)); exact BK326.out) hb); replace HB := bs hb; (try clear hb)))
    go_meet
    case rel => exact ⟨_, ((t325 != t314)), (rs), H', ⟨by first | omega | exact Nat.le_refl _⟩, ⟨by (with_reducible repeat (first | apply Kd.R_alloc | apply Kd.R_drewN | apply Kd.R_drew)); exact Kd.R_mono HO313.out (fun _ hk => ⟨hk.1.2, hk.2⟩)⟩, ⟨by (with_reducible repeat (first | apply Kd.R_alloc | apply Kd.R_drewN | apply Kd.R_drew)); exact Kd.R_mono HO319.out (fun _ hk => ⟨hk.1.2, hk.2⟩)⟩, ⟨by (with_reducible repeat (first | apply Kd.R_alloc | apply Kd.R_drewN | apply Kd.R_drew)); exact Kd.R_mono HO324.out (fun _ hk => ⟨hk.1.2, hk.2⟩)⟩, ⟨pk BK304⟩, ⟨pk BK315⟩, ⟨pk BK320⟩, ⟨pk BK326⟩, ⟨bw⟩⟩
   ·replace c38 := Bool.eq_false_iff.mpr c38
    subst c38
    rw [if_neg (show ¬ (false = true) by decide)] at H
    have H' := Aside0.mk H
    clear H
    have hnb47 := NB326_304.out
    have hnc47 := NB304_326.out
    have hnb48 := NB326_315.out
    have hnc48 := NB315_326.out
    have hnb49 := NB326_320.out
    have hnc49 := NB320_326.out
    have hcz50_0 := bc BK326 0 (.int .i64 0)
    have hcz50_1 := bc BK326 1 (.slice none 0 0)
    have hfz50_0 := blk_frozen BK326.out 0
    have hfz50_1 := blk_frozen BK326.out 1
    have hnb51 := NB315_304.out
    have hnc51 := NB304_315.out
    have hnb52 := NB315_320.out
    have hnc52 := NB320_315.out
    have hcz53_0 := bc BK315 0 (.int .i64 t310)
    have hcz53_1 := bc BK315 1 (.slice Ao22 t311.length co22)
    have hfz53_0 := blk_frozen BK315.out 0
    have hfz53_1 := blk_frozen BK315.out 1
    go_wp2_with (first | ((with_reducible refine gate_callee (f := 24) rfl ?_); refine gl (some 34) Tryd.func24 #[.agg #[.int .i64 t321, .slice Ao36 t322.length co36], .agg #[.int .i64 t310, .slice Ao22 t311.length co22]] ?_; (with_reducible refine (laws_eqPuzzle.calls k t321 _ _ t322 t310 _ _ t311 false _ ?side1 ?side2 ?side3 ?side4 A37.out).mono ?_); (case side1 => refine (Kd.R_reads' (e := 33) (base := w.heap.size) (ok := fun k_ => (((True ∧ some k_ ≠ (.slice Ao17 t307.length co17 : Value).ownBlock) ∧ some k_ ≠ (.slice Ao22 t311.length co22 : Value).ownBlock) ∧ some k_ ≠ (.slice Ao29 t317.length co29 : Value).ownBlock)) (n := t322.length) (c := co36) ?_).2.2; exact (by (with_reducible repeat (first | apply Kd.R_alloc | apply Kd.R_drewN | apply Kd.R_drew)); exact (Kd.R_mono (Kd.R_far (p := ⟨gb326, 1, none⟩) (Kd.R_far (p := ⟨gb326, 0, none⟩) (Kd.R_types HO324.out BK326.out (by decide)) (fun _ hk => hk.2) (.int .i64 t321)) (fun _ hk => hk.2) (.slice Ao36 t322.length co36)) (fun _ h_ => h_.1)))); (case side2 => exact (Kd.R_reads' HO324.out).2.1); (case side3 => refine (Kd.R_reads' (e := 33) (base := w.heap.size) (ok := fun k_ => (((True ∧ some k_ ≠ (.slice Ao17 t307.length co17 : Value).ownBlock) ∧ some k_ ≠ (.slice Ao29 t317.length co29 : Value).ownBlock) ∧ some k_ ≠ (.slice Ao36 t322.length co36 : Value).ownBlock)) (n := t311.length) (c := co22) ?_).2.2; exact (by (with_reducible repeat (first | apply Kd.R_alloc | apply Kd.R_drewN | apply Kd.R_drew)); exact (Kd.R_mono (Kd.R_far (p := ⟨gb326, 1, none⟩) (Kd.R_far (p := ⟨gb326, 0, none⟩) (Kd.R_types HO313.out BK326.out (by decide)) (fun _ hk => hk.2) (.int .i64 t321)) (fun _ hk => hk.2) (.slice Ao36 t322.length co36)) (fun _ h_ => h_.1)))); (case side4 => exact (Kd.R_reads' HO313.out).2.1); rintro e w54 ⟨rfl, hb⟩; refine ⟨_, rfl, ?_⟩; replace HO309 := Aside0.mk (Kd.R_below (by (with_reducible repeat (first | apply Kd.R_alloc | apply Kd.R_drewN | apply Kd.R_drew)); exact (Kd.R_mono (Kd.R_far (p := ⟨gb326, 1, none⟩) (Kd.R_far (p := ⟨gb326, 0, none⟩) (Kd.R_types HO309.out BK326.out (by decide)) (fun _ hk => hk.2) (.int .i64 t321)) (fun _ hk => hk.2) (.slice Ao36 t322.length co36)) (fun _ h_ => h_.1))) hb); replace HO313 := Aside0.mk (Kd.R_below (by (with_reducible repeat (first | apply Kd.R_alloc | apply Kd.R_drewN | apply Kd.R_drew)); exact (Kd.R_mono (Kd.R_far (p := ⟨gb326, 1, none⟩) (Kd.R_far (p := ⟨gb326, 0, none⟩) (Kd.R_types HO313.out BK326.out (by decide)) (fun _ hk => hk.2) (.int .i64 t321)) (fun _ hk => hk.2) (.slice Ao36 t322.length co36)) (fun _ h_ => h_.1))) hb); replace HO319 := Aside0.mk (Kd.R_below (by (with_reducible repeat (first | apply Kd.R_alloc | apply Kd.R_drewN | apply Kd.R_drew)); exact (Kd.R_mono (Kd.R_far (p := ⟨gb326, 1, none⟩) (Kd.R_far (p := ⟨gb326, 0, none⟩) (Kd.R_types HO319.out BK326.out (by decide)) (fun _ hk => hk.2) (.int .i64 t321)) (fun _ hk => hk.2) (.slice Ao36 t322.length co36)) (fun _ h_ => h_.1))) hb); replace HO324 := Aside0.mk (Kd.R_below (by (with_reducible repeat (first | apply Kd.R_alloc | apply Kd.R_drewN | apply Kd.R_drew)); exact (Kd.R_mono (Kd.R_far (p := ⟨gb326, 1, none⟩) (Kd.R_far (p := ⟨gb326, 0, none⟩) (Kd.R_types HO324.out BK326.out (by decide)) (fun _ hk => hk.2) (.int .i64 t321)) (fun _ hk => hk.2) (.slice Ao36 t322.length co36)) (fun _ h_ => h_.1))) hb); replace BK304 := Aside0.mk (blk_below (g := gb304) (o := .cells #[.int .i64 a0_0, .slice A0_1 l0_1.length c0_1] 46 (0, 0)) (by (with_reducible repeat (first | refine blk_drewN ?_ _ | refine blk_drew ?_ | refine blk_alloc ?_ _)); refine blk_far ?_ NB304_326.out _; (with_reducible repeat (first | refine blk_drewN ?_ _ | refine blk_drew ?_ | refine blk_alloc ?_ _)); refine blk_far ?_ NB304_326.out _; (with_reducible repeat (first | refine blk_drewN ?_ _ | refine blk_drew ?_ | refine blk_alloc ?_ _)); exact BK304.out) hb); replace BK315 := Aside0.mk (blk_below (g := gb315) (o := .cells #[.int .i64 t310, .slice Ao22 t311.length co22] 38 (0, 0)) (by (with_reducible repeat (first | refine blk_drewN ?_ _ | refine blk_drew ?_ | refine blk_alloc ?_ _)); refine blk_far ?_ NB315_326.out _; (with_reducible repeat (first | refine blk_drewN ?_ _ | refine blk_drew ?_ | refine blk_alloc ?_ _)); refine blk_far ?_ NB315_326.out _; (with_reducible repeat (first | refine blk_drewN ?_ _ | refine blk_drew ?_ | refine blk_alloc ?_ _)); exact BK315.out) hb); replace BK320 := Aside0.mk (blk_below (g := gb320) (o := .cells #[.int .i64 t316, .slice Ao29 t317.length co29] 38 (0, 0)) (by (with_reducible repeat (first | refine blk_drewN ?_ _ | refine blk_drew ?_ | refine blk_alloc ?_ _)); refine blk_far ?_ NB320_326.out _; (with_reducible repeat (first | refine blk_drewN ?_ _ | refine blk_drew ?_ | refine blk_alloc ?_ _)); refine blk_far ?_ NB320_326.out _; (with_reducible repeat (first | refine blk_drewN ?_ _ | refine blk_drew ?_ | refine blk_alloc ?_ _)); exact BK320.out) hb); replace BK326 := Aside0.mk (blk_below (g := gb326) (o := .cells #[.int .i64 t321, .slice Ao36 t322.length co36] 38 (0, 0)) (by (with_reducible repeat (first | refine blk_drewN ?_ _ | refine blk_drew ?_ | refine blk_alloc ?_ _)); refine blk_put (cs := #[.int .i64 t321, .slice none 0 0]) ?_ 1 _ rfl; (with_reducible repeat (first | refine blk_drewN ?_ _ | refine blk_drew ?_ | refine blk_alloc ?_ _)); refine blk_put (cs := #[.int .i64 0, .slice none 0 0]) ?_ 0 _ rfl; (with_reducible repeat (first | refine blk_drewN ?_ _ | refine blk_drew ?_ | refine blk_alloc ?_ _)); exact BK326.out) hb); replace HB := bs hb; (try clear hb)))
    go_meet
    case rel => exact ⟨_, (true), (rs), H', ⟨by first | omega | exact Nat.le_refl _⟩, ⟨by (with_reducible repeat (first | apply Kd.R_alloc | apply Kd.R_drewN | apply Kd.R_drew)); exact Kd.R_mono HO313.out (fun _ hk => ⟨hk.1.2, hk.2⟩)⟩, ⟨by (with_reducible repeat (first | apply Kd.R_alloc | apply Kd.R_drewN | apply Kd.R_drew)); exact Kd.R_mono HO319.out (fun _ hk => ⟨hk.1.2, hk.2⟩)⟩, ⟨by (with_reducible repeat (first | apply Kd.R_alloc | apply Kd.R_drewN | apply Kd.R_drew)); exact Kd.R_mono HO324.out (fun _ hk => ⟨hk.1.2, hk.2⟩)⟩, ⟨pk BK304⟩, ⟨pk BK315⟩, ⟨pk BK320⟩, ⟨pk BK326⟩, ⟨bw⟩⟩
  case rest =>
   clear HC11
   try clear c1
   try clear c2
   try clear p2
   try clear c3
   try clear c3b0
   try clear c4
   try clear c5
   try clear c14
   try clear c20
   try clear c24
   try clear c26
   try clear c27
   try clear c29
   try clear c32
   try clear c33
   try clear c34
   try clear c38
   try clear c39
   try clear c40
   try clear c41
   try clear c43
   try clear c44
   try clear c47
   try clear c48
   try clear c49
   try clear c51
   try clear c52
   try clear hcz13_0
   try clear hcz13_1
   try clear hcz15_0
   try clear hcz15_1
   try clear hcz21_0
   try clear hcz21_1
   try clear hcz23_0
   try clear hcz23_1
   try clear hcz28_0
   try clear hcz28_1
   try clear hcz35_0
   try clear hcz35_1
   try clear hcz42_0
   try clear hcz42_1
   try clear hcz45_0
   try clear hcz45_1
   try clear hcz50_0
   try clear hcz50_1
   try clear hcz53_0
   try clear hcz53_1
   try clear hcz5_0
   try clear hcz5_1
   try clear hfz13_0
   try clear hfz13_1
   try clear hfz15_0
   try clear hfz15_1
   try clear hfz21_0
   try clear hfz21_1
   try clear hfz23_0
   try clear hfz23_1
   try clear hfz28_0
   try clear hfz28_1
   try clear hfz35_0
   try clear hfz35_1
   try clear hfz42_0
   try clear hfz42_1
   try clear hfz45_0
   try clear hfz45_1
   try clear hfz50_0
   try clear hfz50_1
   try clear hfz53_0
   try clear hfz53_1
   try clear hfz5_0
   try clear hfz5_1
   obtain ⟨kq, x40_10, rfl, HA, HJ10, HO_316001, HO_321001, HO_327001, BK304, BK315, BK320, BK326, HB⟩ := hcut
   cases kq with
   | zero => exact absurd HA.out (by simp [laws_FnExactHarderPuzzle.j0])
   | succ kj10 =>
    have H := HA.out
    clear HA
    simp only [laws_FnExactHarderPuzzle.j0] at H
    by_cases c55 : x40_10 = true
    ·subst c55
     rw [if_pos rfl] at H
     exact absurd (Option.some.inj H) (by rw [HRT.out]; decide)
    ·replace c55 := Bool.eq_false_iff.mpr c55
     subst c55
     rw [if_neg (show ¬ (false = true) by decide)] at H
     replace H := Option.bind_eq_some_iff.mp H
     obtain ⟨⟨t328, t329⟩, A560, H⟩ := H
     (try dsimp only at H)
     have A56 := Aside0.mk A560
     clear A560
     replace H := Option.bind_eq_some_iff.mp H
     obtain ⟨t332, A570, H⟩ := H
     (try dsimp only at H)
     have A57 := Aside0.mk A570
     clear A570
     by_cases c58 : t332 = true
     ·subst c58
      rw [if_pos rfl] at H
      replace H := Option.bind_eq_some_iff.mp H
      obtain ⟨⟨t333, t334⟩, A590, H⟩ := H
      (try dsimp only at H)
      have A59 := Aside0.mk A590
      clear A590
      have HC60 := Aside0.mk H
      clear H
      try go_wp2
      replace HO_316001 := Aside0.mk (Kd.R_drew HO_316001.out)
      replace HO_321001 := Aside0.mk (Kd.R_drew HO_321001.out)
      replace HO_327001 := Aside0.mk (Kd.R_drew HO_327001.out)
      replace BK304 := Aside0.mk (blk_drew BK304.out)
      replace BK315 := Aside0.mk (blk_drew BK315.out)
      replace BK320 := Aside0.mk (blk_drew BK320.out)
      replace BK326 := Aside0.mk (blk_drew BK326.out)
      replace HB := Aside0.mk (below_drew1 HB.out)
      refine start_ (n := 5) (S := fun w' => w'.cell? ⟨gb320, 0, none⟩ = some (.int .i64 t316) ∧ w'.cell? ⟨gb320, 1, none⟩ = some (.slice Ao29 t317.length co29) ∧ w'.cell? ⟨gb304, 0, none⟩ = some (.int .i64 a0_0) ∧ w'.cell? ⟨gb304, 1, none⟩ = some (.slice A0_1 l0_1.length c0_1)) (ds := []) #[false, false, false, false, false] (by kernel_rfl) rfl rfl ⟨ec BK320, ec BK320, ec BK304, ec BK304⟩ (fun hHeld => ?_)
      generalize wc.drew = w61 at HO_316001 HO_321001 HO_327001 BK304 BK315 BK320 BK326 HB hHeld ⊢
      refine take_ (i := 0) (N := some 41) (v := ?_) (a' := ?_) #[true, false, false, false, false] rfl rfl (by kernel_rfl) (fun _ _ _ h => h) (Or.inl ⟨by rfl, ?_⟩) hHeld ?_ ?_
      rotate_left
      ·rintro w' ⟨s0, s1, s2, s3⟩
       go_simp
       with_reducible rfl
      rotate_left
      ·simp only [Act.put, List.setIfInBounds_toArray, List.set_cons_zero, List.set_cons_succ, i64_w, i32_w]
       rfl
      refine take_ (i := 1) (N := some 42) (v := ?_) (a' := ?_) #[true, true, false, false, false] rfl rfl (by kernel_rfl) (fun _ _ _ h => h) (Or.inl ⟨by rfl, ?_⟩) hHeld ?_ ?_
      rotate_left
      ·rintro w' ⟨s0, s1, s2, s3⟩
       go_simp
       with_reducible rfl
      rotate_left
      ·simp only [Act.put, List.setIfInBounds_toArray, List.set_cons_zero, List.set_cons_succ, i64_w, i32_w]
       rfl
      refine one_ (i := 2) (N := some 43) #[true, true, true, false, false] rfl rfl (by kernel_rfl) (by decide) (fun K hK => ?_)
      refine goes_ Tryd.func29 (by kernel_rfl) rfl #[.agg #[.int .i64 a0_0, .slice A0_1 l0_1.length c0_1]] (by rfl) rfl rfl (by (try simp only [List.map_toArray, List.map_cons, List.map_nil]); first | done | rfl | (simp only [List.length_drop, List.length_take]; rfl)) ?_
      with_reducible refine (laws_toPuzzle.calls kj10 a0_0 _ _ l0_1 t328 t329 _ ?side1 ?side2 A56.out).mono ?_
      (case side1 => repeat (first | exact (Kd.C_below HR0_1.out HB.out) | (with_reducible refine Kd.C_alloc ?_ _) | (with_reducible refine Kd.C_drewN ?_ _) | (with_reducible refine Kd.C_drew ?_)))
      (case side2 => exact HC0_1.out)
      rintro e w62 ⟨v330, rfl, ho0, hb⟩
      refine ⟨_, rfl, ?_⟩
      have HO331 := Aside0.mk (Kd.R_lower (Kd.R_new' (Kd.R_new' (Kd.R_new' ho0 (Kd.R_lt (pr HO_316001))) (Kd.R_lt (pr HO_321001))) (Kd.R_lt (pr HO_327001))) (below_size bw))
      replace HO_316001 := Aside0.mk (Kd.R_elder' (pr HO_316001) (Kd.R_base ho0) hb)
      replace HO_321001 := Aside0.mk (Kd.R_elder' (pr HO_321001) (Kd.R_base ho0) hb)
      replace HO_327001 := Aside0.mk (Kd.R_elder' (pr HO_327001) (Kd.R_base ho0) hb)
      replace BK304 := nk BK304 hb
      replace BK315 := nk BK315 hb
      replace BK320 := nk BK320 hb
      replace BK326 := nk BK326 hb
      replace HB := bs hb
      (try clear hb)
      (try clear ho0)
      obtain ⟨Ao63, co63, eo63⟩ := Kd.R_slice HO331.out
      (first | subst eo63 | (injection eo63 with f1_ f2_ f3_; have f4_ := f1_.symm; have f5_ := f3_.symm; clear f1_ f2_ f3_; subst f4_; subst f5_))
      refine hK.out _ _ ⟨ec BK320, ec BK320, ec BK304, ec BK304⟩ (fun hHeld => ?_)
      clear hK K
      refine nm (some 43) ?_
      refine one_ (i := 3) (N := some 44) #[true, true, true, true, false] rfl rfl (by kernel_rfl) (by decide) (fun K hK => ?_)
      refine goes_ Tryd.func24 (by kernel_rfl) rfl #[.agg #[.int .i64 t316, .slice Ao29 t317.length co29], .agg #[.int .i64 t328, .slice Ao63 t329.length co63]] (by rfl) rfl rfl (by (try simp only [List.map_toArray, List.map_cons, List.map_nil]); first | done | rfl | (simp only [List.length_drop, List.length_take]; rfl)) ?_
      with_reducible refine (laws_eqPuzzle.calls kj10 t316 _ _ t317 t328 _ _ t329 true _ ?side1 ?side2 ?side3 ?side4 A57.out).mono ?_
      (case side1 => repeat (first | exact (Kd.R_reads' HO_321001.out).2.2 | (with_reducible refine Kd.C_alloc ?_ _) | (with_reducible refine Kd.C_drewN ?_ _) | (with_reducible refine Kd.C_drew ?_)))
      (case side2 => exact (Kd.R_reads' HO_321001.out).2.1)
      (case side3 => repeat (first | exact (Kd.R_reads' HO331.out).2.2 | (with_reducible refine Kd.C_alloc ?_ _) | (with_reducible refine Kd.C_drewN ?_ _) | (with_reducible refine Kd.C_drew ?_)))
      (case side4 => exact (Kd.R_reads' HO331.out).2.1)
      rintro e w64 ⟨rfl, hb⟩
      refine ⟨_, rfl, ?_⟩
      replace HO_316001 := Aside0.mk (Kd.R_below (pr HO_316001) hb)
      replace HO_321001 := Aside0.mk (Kd.R_below (pr HO_321001) hb)
      replace HO_327001 := Aside0.mk (Kd.R_below (pr HO_327001) hb)
      replace HO331 := Aside0.mk (Kd.R_below (pr HO331) hb)
      replace BK304 := nk BK304 hb
      replace BK315 := nk BK315 hb
      replace BK320 := nk BK320 hb
      replace BK326 := nk BK326 hb
      replace HB := bs hb
      (try clear hb)
      refine hK.out _ _ ⟨ec BK320, ec BK320, ec BK304, ec BK304⟩ (fun hHeld => ?_)
      clear hK K
      refine nm (some 44) ?_
      refine pure_ (i := 4) (N := some 45) (v := ?_) (a' := ?_) #[true, true, true, true, true] rfl rfl (by kernel_rfl) (fun _ _ _ h => h) (Or.inl ⟨by rfl, ?_⟩) ?_ ?_
      rotate_left
      ·intro w'
       go_simp
       with_reducible rfl
      rotate_left
      ·simp only [Act.put, List.setIfInBounds_toArray, List.set_cons_zero, List.set_cons_succ, i64_w, i32_w]
       rfl
      refine done_ (by kernel_rfl) ?_
      have hnb65 := NB320_304.out
      have hnc65 := NB304_320.out
      have hnb66 := NB320_315.out
      have hnc66 := NB315_320.out
      have hnb67 := NB320_326.out
      have hnc67 := NB326_320.out
      have hcz68_0 := bc BK320 0 (.int .i64 t316)
      have hcz68_1 := bc BK320 1 (.slice Ao29 t317.length co29)
      have hfz68_0 := blk_frozen BK320.out 0
      have hfz68_1 := blk_frozen BK320.out 1
      go_upto_region 14 with (first | ((with_reducible refine gate_callee (f := 25) rfl ?_); refine gl (some 48) Tryd.func25 #[.agg #[.int .i64 t316, .slice Ao29 t317.length co29], .int .i64 1] ?_; (with_reducible refine (laws_markPuzzle.calls kj10 t316 (fun k_ => some k_ = (.slice Ao29 t317.length co29 : Value).ownBlock) (.slice Ao29 t317.length co29) t317 1 t333 t334 w _ ?side1 ?side2 A59.out).mono ?_); (case side1 => repeat (first | (with_reducible first | exact HB.out | apply below_alloc | apply pw_below_drewN | apply below_drew1 | refine below_set ?_ GE304.out | refine below_set ?_ GE315.out | refine below_set ?_ GE320.out | refine below_set ?_ GE326.out) | exact HB.out)); (case side2 => exact Kd.R_tight rfl HO_321001.out); rintro e w69 ⟨rfl, hy0, hb, hkp⟩; refine ⟨_, rfl, ?_⟩; replace HO_316001 := Aside0.mk (Kd.R_mono (ok' := fun k_ => some k_ ≠ (.slice Ao29 t317.length co29 : Value).ownBlock ∧ some k_ ≠ (.slice Ao36 t322.length co36 : Value).ownBlock ∧ some k_ ≠ (.slice Ao63 t329.length co63 : Value).ownBlock) (Kd.R_keptB (HO_316001.out) hkp (fun k_ hk_ hs_ => (hk_.1.1) hs_)) (fun k_ hk_ => ⟨hk_.1.1.1, hk_.1.1.2, hk_.1.2⟩)); replace HO_327001 := Aside0.mk (Kd.R_mono (ok' := fun k_ => some k_ ≠ (.slice Ao22 t311.length co22 : Value).ownBlock ∧ some k_ ≠ (.slice Ao29 t317.length co29 : Value).ownBlock ∧ some k_ ≠ (.slice Ao63 t329.length co63 : Value).ownBlock) (Kd.R_keptB (HO_327001.out) hkp (fun k_ hk_ hs_ => (hk_.1.2) hs_)) (fun k_ hk_ => ⟨hk_.1.1.1, hk_.1.1.2, hk_.1.2⟩)); replace BK304 := Aside0.mk (blk_kept (pk BK304) hkp (fun hs_ => (fun e_ => (Kd.R_ne HO_321001.out BK304.out (by decide)) e_) hs_)); replace BK315 := Aside0.mk (blk_kept (pk BK315) hkp (fun hs_ => (fun e_ => (Kd.R_ne HO_321001.out BK315.out (by decide)) e_) hs_)); replace BK320 := Aside0.mk (blk_kept (pk BK320) hkp (fun hs_ => (fun e_ => (Kd.R_ne HO_321001.out BK320.out (by decide)) e_) hs_)); replace BK326 := Aside0.mk (blk_kept (pk BK326) hkp (fun hs_ => (fun e_ => (Kd.R_ne HO_321001.out BK326.out (by decide)) e_) hs_)); replace HO_321001 := Aside0.mk (Kd.R_reok rfl hy0 (fun k_ e_ => HO_321001.out.1 k_ e_)); replace HO331 := Aside0.mk (Kd.R_mono (ok' := fun k_ => some k_ ≠ (.slice Ao22 t311.length co22 : Value).ownBlock ∧ some k_ ≠ (.slice Ao29 t317.length co29 : Value).ownBlock ∧ some k_ ≠ (.slice Ao36 t322.length co36 : Value).ownBlock) (Kd.R_keptB (HO331.out) hkp (fun k_ hk_ hs_ => (hk_.1.2) hs_)) (fun k_ hk_ => ⟨hk_.1.1.1.2, hk_.1.1.2, hk_.1.2⟩)); replace HB := Aside0.mk (hb); (try clear hb); (try clear hkp); (try clear hy0)))
      (try simp only [Act.put, List.setIfInBounds_toArray, List.set_cons_zero, List.set_cons_succ])
      go_cut [61] (fun v61 wc => ∃ (kq : Nat) (x61_59 : Bool), v61 = .bool x61_59 ∧ Aside0 (laws_FnExactHarderPuzzle.j1 kq t314 x61_59 a0_0 l0_1 t310 t311 t321 t322 = some r) ∧ Aside0 (kq ≤ kj10) ∧ Aside0 (Kd.R k33 33 wc w.heap.size (fun k_ => some k_ ≠ ((.slice Ao29 t317.length co29) : Value).ownBlock ∧ some k_ ≠ ((.slice Ao36 t322.length co36) : Value).ownBlock) (.slice Ao22 t311.length co22) t311) ∧ Aside0 (Kd.R k33 33 wc w.heap.size (fun k_ => some k_ ≠ ((.slice Ao22 t311.length co22) : Value).ownBlock ∧ some k_ ≠ ((.slice Ao36 t322.length co36) : Value).ownBlock) (.slice Ao29 t317.length co29) t334) ∧ Aside0 (Kd.R k33 33 wc w.heap.size (fun k_ => some k_ ≠ ((.slice Ao22 t311.length co22) : Value).ownBlock ∧ some k_ ≠ ((.slice Ao29 t317.length co29) : Value).ownBlock) (.slice Ao36 t322.length co36) t322) ∧ Aside0 (wc.heap[gb304]? = some (.cells #[.int .i64 a0_0, (.slice A0_1 l0_1.length c0_1)] 46 (0, 0))) ∧ Aside0 (wc.heap[gb315]? = some (.cells #[.int .i64 t310, (.slice Ao22 t311.length co22)] 38 (0, 0))) ∧ Aside0 (wc.heap[gb320]? = some (.cells #[.int .i64 t316, (.slice Ao29 t317.length co29)] 38 (0, 0))) ∧ Aside0 (wc.heap[gb326]? = some (.cells #[.int .i64 t321, (.slice Ao36 t322.length co36)] 38 (0, 0))) ∧ Aside0 (Below w.heap.size w wc))
      case first =>
       have H := HC60.out
       clear HC60
       by_cases c70 : t333 < 0
       ·rw [if_pos c70] at H
        have c70b0 : decide (t333 < 0) = true := decide_eq_true c70
        clear c70
        (first | rw [c70b0] | rw [@decide_eq_true _ _ (of_decide_eq_true c70b1)] | rw [@decide_eq_false _ _ (of_decide_eq_false c70b1)] | (simp only [i64_w, i32_w]; rw [c70b0]) | skip)
        have H' := Aside0.mk H
        clear H
        go_wp2
        go_meet
        case rel => exact ⟨_, (true), (rs), H', ⟨by have := HJ10.out; first | omega | exact Nat.le_refl _⟩, ⟨by (with_reducible repeat (first | apply Kd.R_alloc | apply Kd.R_drewN | apply Kd.R_drew)); exact Kd.R_mono HO_316001.out (fun _ hk => ⟨hk.1, hk.2.1⟩)⟩, ⟨by (with_reducible repeat (first | apply Kd.R_alloc | apply Kd.R_drewN | apply Kd.R_drew)); exact Kd.R_mono HO_321001.out (fun _ hk => ⟨hk.1.1, hk.1.2⟩)⟩, ⟨by (with_reducible repeat (first | apply Kd.R_alloc | apply Kd.R_drewN | apply Kd.R_drew)); exact Kd.R_mono HO_327001.out (fun _ hk => ⟨hk.1, hk.2.1⟩)⟩, ⟨pk BK304⟩, ⟨pk BK315⟩, ⟨pk BK320⟩, ⟨pk BK326⟩, ⟨bw⟩⟩
       ·rw [if_neg c70] at H
        have c70b0 : decide (t333 < 0) = false := decide_eq_false c70
        clear c70
        (first | rw [c70b0] | rw [@decide_eq_true _ _ (of_decide_eq_true c70b1)] | rw [@decide_eq_false _ _ (of_decide_eq_false c70b1)] | (simp only [i64_w, i32_w]; rw [c70b0]) | skip)
        replace H := Option.bind_eq_some_iff.mp H
        obtain ⟨t335, A710, H⟩ := H
        (try dsimp only at H)
        have A71 := Aside0.mk A710
        clear A710
        by_cases c72 : t335 = true
        ·subst c72
         rw [if_pos rfl] at H
         have H' := Aside0.mk H
         clear H
         have hnb73 := NB326_304.out
         have hnc73 := NB304_326.out
         have hnb74 := NB326_315.out
         have hnc74 := NB315_326.out
         have hnb75 := NB326_320.out
         have hnc75 := NB320_326.out
         have hcz76_0 := bc BK326 0 (.int .i64 t321)
         have hcz76_1 := bc BK326 1 (.slice Ao36 t322.length co36)
         have hfz76_0 := blk_frozen BK326.out 0
         have hfz76_1 := blk_frozen BK326.out 1
         have hnb77 := NB315_304.out
         have hnc77 := NB304_315.out
         have hnb78 := NB315_320.out
         have hnc78 := NB320_315.out
         have hcz79_0 := bc BK315 0 (.int .i64 t310)
         have hcz79_1 := bc BK315 1 (.slice Ao22 t311.length co22)
         have hfz79_0 := blk_frozen BK315.out 0
         have hfz79_1 := blk_frozen BK315.out 1
         go_wp2_with (first | (go_at_call 24; (with_reducible refine (laws_eqPuzzle.calls kj10 t321 _ _ t322 t310 _ _ t311 true _ ?side1 ?side2 ?side3 ?side4 A71.out).mono ?_); (case side1 => repeat (first | exact (Kd.R_reads' HO_327001.out).2.2 | (with_reducible refine Kd.C_alloc ?_ _) | (with_reducible refine Kd.C_drewN ?_ _) | (with_reducible refine Kd.C_drew ?_))); (case side2 => exact (Kd.R_reads' HO_327001.out).2.1); (case side3 => repeat (first | exact (Kd.R_reads' HO_316001.out).2.2 | (with_reducible refine Kd.C_alloc ?_ _) | (with_reducible refine Kd.C_drewN ?_ _) | (with_reducible refine Kd.C_drew ?_))); (case side4 => exact (Kd.R_reads' HO_316001.out).2.1); rintro e w80 ⟨rfl, hb⟩; replace HO_316001 := Aside0.mk (Kd.R_below (pr HO_316001) hb); replace HO_321001 := Aside0.mk (Kd.R_below (pr HO_321001) hb); replace HO_327001 := Aside0.mk (Kd.R_below (pr HO_327001) hb); replace HO331 := Aside0.mk (Kd.R_below (pr HO331) hb); replace BK304 := nk BK304 hb; replace BK315 := nk BK315 hb; replace BK320 := nk BK320 hb; replace BK326 := nk BK326 hb; replace HB := bs hb; (try clear hb)))
         go_meet
         case rel => exact ⟨_, ((t325 != t314)), (rs), H', ⟨by have := HJ10.out; first | omega | exact Nat.le_refl _⟩, ⟨by (with_reducible repeat (first | apply Kd.R_alloc | apply Kd.R_drewN | apply Kd.R_drew)); exact Kd.R_mono HO_316001.out (fun _ hk => ⟨hk.1, hk.2.1⟩)⟩, ⟨by (with_reducible repeat (first | apply Kd.R_alloc | apply Kd.R_drewN | apply Kd.R_drew)); exact Kd.R_mono HO_321001.out (fun _ hk => ⟨hk.1.1, hk.1.2⟩)⟩, ⟨by (with_reducible repeat (first | apply Kd.R_alloc | apply Kd.R_drewN | apply Kd.R_drew)); exact Kd.R_mono HO_327001.out (fun _ hk => ⟨hk.1, hk.2.1⟩)⟩, ⟨pk BK304⟩, ⟨pk BK315⟩, ⟨pk BK320⟩, ⟨pk BK326⟩, ⟨bw⟩⟩
        ·replace c72 := Bool.eq_false_iff.mpr c72
         subst c72
         rw [if_neg (show ¬ (false = true) by decide)] at H
         have H' := Aside0.mk H
         clear H
         have hnb81 := NB326_304.out
         have hnc81 := NB304_326.out
         have hnb82 := NB326_315.out
         have hnc82 := NB315_326.out
         have hnb83 := NB326_320.out
         have hnc83 := NB320_326.out
         have hcz84_0 := bc BK326 0 (.int .i64 t321)
         have hcz84_1 := bc BK326 1 (.slice Ao36 t322.length co36)
         have hfz84_0 := blk_frozen BK326.out 0
         have hfz84_1 := blk_frozen BK326.out 1
         have hnb85 := NB315_304.out
         have hnc85 := NB304_315.out
         have hnb86 := NB315_320.out
         have hnc86 := NB320_315.out
         have hcz87_0 := bc BK315 0 (.int .i64 t310)
         have hcz87_1 := bc BK315 1 (.slice Ao22 t311.length co22)
         have hfz87_0 := blk_frozen BK315.out 0
         have hfz87_1 := blk_frozen BK315.out 1
         go_wp2_with (first | (go_at_call 24; (with_reducible refine (laws_eqPuzzle.calls kj10 t321 _ _ t322 t310 _ _ t311 false _ ?side1 ?side2 ?side3 ?side4 A71.out).mono ?_); (case side1 => repeat (first | exact (Kd.R_reads' HO_327001.out).2.2 | (with_reducible refine Kd.C_alloc ?_ _) | (with_reducible refine Kd.C_drewN ?_ _) | (with_reducible refine Kd.C_drew ?_))); (case side2 => exact (Kd.R_reads' HO_327001.out).2.1); (case side3 => repeat (first | exact (Kd.R_reads' HO_316001.out).2.2 | (with_reducible refine Kd.C_alloc ?_ _) | (with_reducible refine Kd.C_drewN ?_ _) | (with_reducible refine Kd.C_drew ?_))); (case side4 => exact (Kd.R_reads' HO_316001.out).2.1); rintro e w88 ⟨rfl, hb⟩; replace HO_316001 := Aside0.mk (Kd.R_below (pr HO_316001) hb); replace HO_321001 := Aside0.mk (Kd.R_below (pr HO_321001) hb); replace HO_327001 := Aside0.mk (Kd.R_below (pr HO_327001) hb); replace HO331 := Aside0.mk (Kd.R_below (pr HO331) hb); replace BK304 := nk BK304 hb; replace BK315 := nk BK315 hb; replace BK320 := nk BK320 hb; replace BK326 := nk BK326 hb; replace HB := bs hb; (try clear hb)))
         go_meet
         case rel => exact ⟨_, (true), (rs), H', ⟨by have := HJ10.out; first | omega | exact Nat.le_refl _⟩, ⟨by (with_reducible repeat (first | apply Kd.R_alloc | apply Kd.R_drewN | apply Kd.R_drew)); exact Kd.R_mono HO_316001.out (fun _ hk => ⟨hk.1, hk.2.1⟩)⟩, ⟨by (with_reducible repeat (first | apply Kd.R_alloc | apply Kd.R_drewN | apply Kd.R_drew)); exact Kd.R_mono HO_321001.out (fun _ hk => ⟨hk.1.1, hk.1.2⟩)⟩, ⟨by (with_reducible repeat (first | apply Kd.R_alloc | apply Kd.R_drewN | apply Kd.R_drew)); exact Kd.R_mono HO_327001.out (fun _ hk => ⟨hk.1, hk.2.1⟩)⟩, ⟨pk BK304⟩, ⟨pk BK315⟩, ⟨pk BK320⟩, ⟨pk BK326⟩, ⟨bw⟩⟩
      case rest =>
       clear HC60
       try clear c1
       try clear c2
       try clear p2
       try clear c3
       try clear c3b0
       try clear c4
       try clear c5
       try clear c6
       try clear c7
       try clear c8
       try clear c14
       try clear c20
       try clear c24
       try clear c25
       try clear c26
       try clear c27
       try clear c29
       try clear c32
       try clear c33
       try clear c34
       try clear c38
       try clear c39
       try clear c40
       try clear c41
       try clear c43
       try clear c44
       try clear c47
       try clear c48
       try clear c49
       try clear c51
       try clear c52
       try clear c55
       try clear c58
       try clear c65
       try clear c66
       try clear c67
       try clear c70
       try clear c70b0
       try clear c72
       try clear c73
       try clear c74
       try clear c75
       try clear c77
       try clear c78
       try clear c81
       try clear c82
       try clear c83
       try clear c85
       try clear c86
       try clear hcz13_0
       try clear hcz13_1
       try clear hcz15_0
       try clear hcz15_1
       try clear hcz21_0
       try clear hcz21_1
       try clear hcz23_0
       try clear hcz23_1
       try clear hcz28_0
       try clear hcz28_1
       try clear hcz35_0
       try clear hcz35_1
       try clear hcz42_0
       try clear hcz42_1
       try clear hcz45_0
       try clear hcz45_1
       try clear hcz50_0
       try clear hcz50_1
       try clear hcz53_0
       try clear hcz53_1
       try clear hcz5_0
       try clear hcz5_1
       try clear hcz68_0
       try clear hcz68_1
       try clear hcz76_0
       try clear hcz76_1
       try clear hcz79_0
       try clear hcz79_1
       try clear hcz84_0
       try clear hcz84_1
       try clear hcz87_0
       try clear hcz87_1
       try clear hfz13_0
       try clear hfz13_1
       try clear hfz15_0
       try clear hfz15_1
       try clear hfz21_0
       try clear hfz21_1
       try clear hfz23_0
       try clear hfz23_1
       try clear hfz28_0
       try clear hfz28_1
       try clear hfz35_0
       try clear hfz35_1
       try clear hfz42_0
       try clear hfz42_1
       try clear hfz45_0
       try clear hfz45_1
       try clear hfz50_0
       try clear hfz50_1
       try clear hfz53_0
       try clear hfz53_1
       try clear hfz5_0
       try clear hfz5_1
       try clear hfz68_0
       try clear hfz68_1
       try clear hfz76_0
       try clear hfz76_1
       try clear hfz79_0
       try clear hfz79_1
       try clear hfz84_0
       try clear hfz84_1
       try clear hfz87_0
       try clear hfz87_1
       try clear p2
       obtain ⟨kq, x61_59, rfl, HA, HJ59, HO_316001, HO_321001, HO_327001, BK304, BK315, BK320, BK326, HB⟩ := hcut
       have hl321001_59 := (Kd.R_reads' HO_321001.out).1
       rw [hl321001_59] at HO_321001
       (try simp only [hl321001_59])
       (try simp only [hl321001_59] at BK304)
       (try simp only [hl321001_59] at BK315)
       (try simp only [hl321001_59] at BK320)
       (try simp only [hl321001_59] at BK326)
       (try simp only [hl321001_59] at HO_316001)
       (try simp only [hl321001_59] at HO_327001)
       cases kq with
       | zero => exact absurd HA.out (by simp [laws_FnExactHarderPuzzle.j1])
       | succ kj59 =>
        have H := HA.out
        clear HA
        simp only [laws_FnExactHarderPuzzle.j1] at H
        by_cases c89 : x61_59 = true
        ·subst c89
         rw [if_pos rfl] at H
         exact absurd (Option.some.inj H) (by rw [HRT.out]; decide)
        ·replace c89 := Bool.eq_false_iff.mpr c89
         subst c89
         rw [if_neg (show ¬ (false = true) by decide)] at H
         replace H := Option.bind_eq_some_iff.mp H
         obtain ⟨⟨t336, t337⟩, A900, H⟩ := H
         (try dsimp only at H)
         have A90 := Aside0.mk A900
         clear A900
         replace H := Option.bind_eq_some_iff.mp H
         obtain ⟨t338, A910, H⟩ := H
         (try dsimp only at H)
         have A91 := Aside0.mk A910
         clear A910
         by_cases c92 : t338 < 0
         ·rw [if_pos c92] at H
          have c92b0 : decide (t338 < 0) = true := decide_eq_true c92
          clear c92
          exact absurd (Option.some.inj H) (by rw [HRT.out]; decide)
         ·rw [if_neg c92] at H
          have c92b0 : decide (t338 < 0) = false := decide_eq_false c92
          clear c92
          by_cases c93 : t338 = t336
          ·rw [if_pos c93] at H
           have c93b0 : (t338 == t336) = true := beq_iff_eq.mpr c93
           have c93b1 : (t338 != t336) = false := bne_eq_false_iff_eq.mpr c93
           clear c93
           replace H := Option.bind_eq_some_iff.mp H
           obtain ⟨⟨t339, t340⟩, A940, H⟩ := H
           (try dsimp only at H)
           have A94 := Aside0.mk A940
           clear A940
           replace H := Option.bind_eq_some_iff.mp H
           obtain ⟨⟨t343, t344, t347⟩, A950, H⟩ := H
           (try dsimp only at H)
           have A95 := Aside0.mk A950
           clear A950
           have HC96 := Aside0.mk H
           clear H
           have hnb97 := NB326_304.out
           have hnc97 := NB304_326.out
           have hnb98 := NB326_315.out
           have hnc98 := NB315_326.out
           have hnb99 := NB326_320.out
           have hnc99 := NB320_326.out
           have hcz100_0 : wc.cell? ⟨gb326, 0, none⟩ = some (.int .i64 t321) := ec BK326
           have hcz100_1 : wc.cell? ⟨gb326, 1, none⟩ = some (.slice Ao36 t322.length co36) := ec BK326
           have hfz100_0 := blk_frozen BK326.out 0
           have hfz100_1 := blk_frozen BK326.out 1
           go_upto_region 25 with (first | ((with_reducible refine gate_callee (f := 25) rfl ?_); refine gl (some 64) Tryd.func25 #[.agg #[.int .i64 t321, .slice Ao36 t322.length co36], .int .i64 1] ?_; (with_reducible refine (laws_markPuzzle.calls kj59 t321 (fun k_ => some k_ = (.slice Ao36 t322.length co36 : Value).ownBlock) (.slice Ao36 t322.length co36) t322 1 t336 t337 w _ ?side1 ?side2 A90.out).mono ?_); (case side1 => repeat (first | (with_reducible first | exact HB.out | apply below_alloc | apply pw_below_drewN | apply below_drew1 | refine below_set ?_ GE304.out | refine below_set ?_ GE315.out | refine below_set ?_ GE320.out | refine below_set ?_ GE326.out) | exact HB.out)); (case side2 => exact Kd.R_tight rfl HO_327001.out); rintro e w101 ⟨rfl, hy0, hb, hkp⟩; refine ⟨_, rfl, ?_⟩; replace HO_316001 := Aside0.mk (Kd.R_mono (ok' := fun k_ => some k_ ≠ (.slice Ao29 t334.length co29 : Value).ownBlock ∧ some k_ ≠ (.slice Ao36 t322.length co36 : Value).ownBlock) (Kd.R_keptB (HO_316001.out) hkp (fun k_ hk_ hs_ => (hk_.2) hs_)) (fun k_ hk_ => ⟨hk_.1.1, hk_.1.2⟩)); replace HO_321001 := Aside0.mk (Kd.R_mono (ok' := fun k_ => some k_ ≠ (.slice Ao22 t311.length co22 : Value).ownBlock ∧ some k_ ≠ (.slice Ao36 t322.length co36 : Value).ownBlock) (Kd.R_keptB (HO_321001.out) hkp (fun k_ hk_ hs_ => (hk_.2) hs_)) (fun k_ hk_ => ⟨hk_.1.1, hk_.1.2⟩)); replace BK304 := Aside0.mk (blk_kept (pk BK304) hkp (fun hs_ => (fun e_ => (Kd.R_ne HO_327001.out BK304.out (by decide)) e_) hs_)); replace BK315 := Aside0.mk (blk_kept (pk BK315) hkp (fun hs_ => (fun e_ => (Kd.R_ne HO_327001.out BK315.out (by decide)) e_) hs_)); replace BK320 := Aside0.mk (blk_kept (pk BK320) hkp (fun hs_ => (fun e_ => (Kd.R_ne HO_327001.out BK320.out (by decide)) e_) hs_)); replace BK326 := Aside0.mk (blk_kept (pk BK326) hkp (fun hs_ => (fun e_ => (Kd.R_ne HO_327001.out BK326.out (by decide)) e_) hs_)); replace HO_327001 := Aside0.mk (Kd.R_reok rfl hy0 (fun k_ e_ => HO_327001.out.1 k_ e_)); replace HB := Aside0.mk (hb); (try clear hb); (try clear hkp); (try clear hy0); have hcz102_0 := bc BK326 0 (.int .i64 t321); have hcz102_1 := bc BK326 1 (.slice Ao36 t322.length co36); have hfz102_0 := blk_frozen BK326.out 0; have hfz102_1 := blk_frozen BK326.out 1) | ((with_reducible refine gate_callee (f := 26) rfl ?_); refine goesL_ (some 67) rfl rfl Tryd.func26 (by kernel_rfl) rfl #[.agg #[.int .i64 t321, .slice Ao36 t337.length co36], .int .i64 1] rfl (by (try simp only [List.map_toArray, List.map_cons, List.map_nil]); first | done | (rw [show t337.length = t322.length from (Kd.R_reads' HO_327001.out).1.symm] <;> rfl) | rfl | (simp only [List.length_drop, List.length_take]; rfl)) ?_; (with_reducible refine (laws_heldPuzzle.calls kj59 t321 _ _ t337 1 t338 _ ?side1 ?side2 A91.out).mono ?_); (case side1 => repeat (first | exact (Kd.R_reads' HO_327001.out).2.2 | (with_reducible refine Kd.C_alloc ?_ _) | (with_reducible refine Kd.C_drewN ?_ _) | (with_reducible refine Kd.C_drew ?_))); (case side2 => rw [show t337.length = t322.length from (Kd.R_reads' HO_327001.out).1.symm]; exact (Kd.R_reads' HO_327001.out).2.1); rintro e w103 ⟨rfl, hb⟩; refine ⟨_, rfl, ?_⟩; replace HO_316001 := Aside0.mk (Kd.R_below (pr HO_316001) hb); replace HO_321001 := Aside0.mk (Kd.R_below (pr HO_321001) hb); replace HO_327001 := Aside0.mk (Kd.R_below (pr HO_327001) hb); replace BK304 := nk BK304 hb; replace BK315 := nk BK315 hb; replace BK320 := nk BK320 hb; replace BK326 := nk BK326 hb; replace HB := bs hb; (try clear hb); have hnb104 := NB304_315.out; have hnc104 := NB315_304.out; have hnb105 := NB304_320.out; have hnc105 := NB320_304.out; have hcz106_0 := bc BK304 0 (.int .i64 a0_0); have hcz106_1 := bc BK304 1 (.slice A0_1 l0_1.length c0_1); have hfz106_0 := blk_frozen BK304.out 0; have hfz106_1 := blk_frozen BK304.out 1) | ((with_reducible refine gate_callee (f := 29) rfl ?_); refine gl (some 75) Tryd.func29 #[.agg #[.int .i64 a0_0, .slice A0_1 l0_1.length c0_1]] ?_; (with_reducible refine (laws_toPuzzle.calls kj59 a0_0 _ _ l0_1 t339 t340 _ ?side1 ?side2 A94.out).mono ?_); (case side1 => repeat (first | exact (Kd.C_below HR0_1.out HB.out) | (with_reducible refine Kd.C_alloc ?_ _) | (with_reducible refine Kd.C_drewN ?_ _) | (with_reducible refine Kd.C_drew ?_))); (case side2 => exact HC0_1.out); rintro e w107 ⟨v341, rfl, ho0, hb⟩; refine ⟨_, rfl, ?_⟩; have HO342 := Aside0.mk (Kd.R_lower (Kd.R_new' (Kd.R_new' (Kd.R_new' ho0 (Kd.R_lt (pr HO_316001))) (Kd.R_lt (pr HO_321001))) (Kd.R_lt (pr HO_327001))) (below_size bw)); replace HO_316001 := Aside0.mk (Kd.R_elder' (pr HO_316001) (Kd.R_base ho0) hb); replace HO_321001 := Aside0.mk (Kd.R_elder' (pr HO_321001) (Kd.R_base ho0) hb); replace HO_327001 := Aside0.mk (Kd.R_elder' (pr HO_327001) (Kd.R_base ho0) hb); replace BK304 := nk BK304 hb; replace BK315 := nk BK315 hb; replace BK320 := nk BK320 hb; replace BK326 := nk BK326 hb; replace HB := bs hb; (try clear hb); (try clear ho0); obtain ⟨Ao108, co108, eo108⟩ := Kd.R_slice HO342.out; subst eo108) | ((with_reducible refine gate_callee (f := 52) rfl ?_); refine gl (some 76) Tryd.func52 #[.agg #[.int .i64 t339, .slice Ao108 t340.length co108]] ?_; (with_reducible refine (impl_HarderPuzzle.calls kj59 t339 _ _ t340 t343 t344 t347 _ ?side1 ?side2 ?side3 A95.out).mono ?_); (case side1 => first | exact HMM.out | exact Dr.Tab.below HMM.out bw | (repeat (first | exact HMM.out | apply Dr.Tab.drewN | apply Dr.Tab.drew | apply Dr.Tab.alloc))); (case side2 => repeat (first | exact (Kd.R_reads' HO342.out).2.2 | (with_reducible refine Kd.C_alloc ?_ _) | (with_reducible refine Kd.C_drewN ?_ _) | (with_reducible refine Kd.C_drew ?_))); (case side3 => exact (Kd.R_reads' HO342.out).2.1); rintro e w109 ⟨v345, rfl, ho0, hb⟩; refine ⟨_, rfl, ?_⟩; have HO346 := Aside0.mk (Kd.R_lower (Kd.R_new' (Kd.R_new' (Kd.R_new' (Kd.R_new' ho0 (Kd.R_lt (pr HO_316001))) (Kd.R_lt (pr HO_321001))) (Kd.R_lt (pr HO_327001))) (Kd.R_lt (pr HO342))) (below_size bw)); replace HO_316001 := Aside0.mk (Kd.R_elder' (pr HO_316001) (Kd.R_base ho0) hb); replace HO_321001 := Aside0.mk (Kd.R_elder' (pr HO_321001) (Kd.R_base ho0) hb); replace HO_327001 := Aside0.mk (Kd.R_elder' (pr HO_327001) (Kd.R_base ho0) hb); replace HO342 := Aside0.mk (Kd.R_elder' (pr HO342) (Kd.R_base ho0) hb); replace BK304 := nk BK304 hb; replace BK315 := nk BK315 hb; replace BK320 := nk BK320 hb; replace BK326 := nk BK326 hb; replace HB := bs hb; (try clear hb); (try clear ho0)) | ((with_reducible refine gate_dst (N := 12) rfl ?_); refine bx 12 38 #[.int .i64 0, .slice none 0 0] ?_; intro gb348 hg w110 hbox hb; replace HO_316001 := Aside0.mk (Kd.R_below (pr HO_316001) hb); replace HO_321001 := Aside0.mk (Kd.R_below (pr HO_321001) hb); replace HO_327001 := Aside0.mk (Kd.R_below (pr HO_327001) hb); replace HO342 := Aside0.mk (Kd.R_below (pr HO342) hb); replace HO346 := Aside0.mk (Kd.R_below (pr HO346) hb); have BK348 := hbox; have GW348 := gs hg; have GE348 := gs hg; replace HB := bs hb; have NB304_348 := nl BK304 hg; have NB348_304 := ng BK304 hg; replace BK304 := nk BK304 hb; have NB315_348 := nl BK315 hg; have NB348_315 := ng BK315 hg; replace BK315 := nk BK315 hb; have NB320_348 := nl BK320 hg; have NB348_320 := ng BK320 hg; replace BK320 := nk BK320 hb; have NB326_348 := nl BK326 hg; have NB348_326 := ng BK326 hg; replace BK326 := nk BK326 hb; clear hb hbox hg; have hnb111 := NB348_304.out; have hnc111 := NB304_348.out; have hnb112 := NB348_315.out; have hnc112 := NB315_348.out; have hnb113 := NB348_320.out; have hnc113 := NB320_348.out; have hnb114 := NB348_326.out; have hnc114 := NB326_348.out; have hcz115_0 := bc BK348 0 (.int .i64 0); have hcz115_1 := bc BK348 1 (.slice none 0 0); have hfz115_0 := blk_frozen BK348.out 0; have hfz115_1 := blk_frozen BK348.out 1; obtain ⟨Ao116, co116, eo116⟩ := Kd.R_slice HO346.out; subst eo116))
           (try simp only [Act.put, List.setIfInBounds_toArray, List.set_cons_zero, List.set_cons_succ])
           go_cut [87] (fun v87 wc => ∃ (kq : Nat) (x87_95 : Bool), v87 = .bool x87_95 ∧ Aside0 (laws_FnExactHarderPuzzle.j2 kq t336 x87_95 t321 t337 = some r) ∧ Aside0 (kq ≤ kj59) ∧ Aside0 (Kd.R k33 33 wc w.heap.size (fun k_ => some k_ ≠ ((.slice Ao29 t334.length co29) : Value).ownBlock ∧ some k_ ≠ ((.slice Ao36 t322.length co36) : Value).ownBlock ∧ some k_ ≠ ((.slice Ao116 t344.length co116) : Value).ownBlock) (.slice Ao22 t311.length co22) t311) ∧ Aside0 (Kd.R k33 33 wc w.heap.size (fun k_ => some k_ ≠ ((.slice Ao22 t311.length co22) : Value).ownBlock ∧ some k_ ≠ ((.slice Ao36 t322.length co36) : Value).ownBlock ∧ some k_ ≠ ((.slice Ao116 t344.length co116) : Value).ownBlock) (.slice Ao29 t334.length co29) t334) ∧ Aside0 (Kd.R k33 33 wc w.heap.size (fun k_ => some k_ ≠ ((.slice Ao22 t311.length co22) : Value).ownBlock ∧ some k_ ≠ ((.slice Ao29 t334.length co29) : Value).ownBlock ∧ some k_ ≠ ((.slice Ao116 t344.length co116) : Value).ownBlock) (.slice Ao36 t322.length co36) t337) ∧ Aside0 (Kd.R k33 33 wc w.heap.size (fun k_ => some k_ ≠ ((.slice Ao22 t311.length co22) : Value).ownBlock ∧ some k_ ≠ ((.slice Ao29 t334.length co29) : Value).ownBlock ∧ some k_ ≠ ((.slice Ao36 t322.length co36) : Value).ownBlock) (.slice Ao116 t344.length co116) t344) ∧ Aside0 (wc.heap[gb304]? = some (.cells #[.int .i64 a0_0, (.slice A0_1 l0_1.length c0_1)] 46 (0, 0))) ∧ Aside0 (wc.heap[gb315]? = some (.cells #[.int .i64 t310, (.slice Ao22 t311.length co22)] 38 (0, 0))) ∧ Aside0 (wc.heap[gb320]? = some (.cells #[.int .i64 t316, (.slice Ao29 t334.length co29)] 38 (0, 0))) ∧ Aside0 (wc.heap[gb326]? = some (.cells #[.int .i64 t321, (.slice Ao36 t322.length co36)] 38 (0, 0))) ∧ Aside0 (wc.heap[gb348]? = some (.cells #[.int .i64 t343, (.slice Ao116 t344.length co116)] 38 (0, 0))) ∧ Aside0 (Below w.heap.size w wc))
           case first =>
            have H := HC96.out
            clear HC96
            replace H := Option.bind_eq_some_iff.mp H
            obtain ⟨t349, A1170, H⟩ := H
            (try dsimp only at H)
            have A117 := Aside0.mk A1170
            clear A1170
            by_cases c118 : t349 = true
            ·subst c118
             rw [if_pos rfl] at H
             have H' := Aside0.mk H
             clear H
             have hnb119 := NB348_304.out
             have hnc119 := NB304_348.out
             have hnb120 := NB348_315.out
             have hnc120 := NB315_348.out
             have hnb121 := NB348_320.out
             have hnc121 := NB320_348.out
             have hnb122 := NB348_326.out
             have hnc122 := NB326_348.out
             have hcz123_0 := bc BK348 0 (.int .i64 0)
             have hcz123_1 := bc BK348 1 (.slice none 0 0)
             have hfz123_0 := blk_frozen BK348.out 0
             have hfz123_1 := blk_frozen BK348.out 1
             have hnb124 := NB315_304.out
             have hnc124 := NB304_315.out
             have hnb125 := NB315_320.out
             have hnc125 := NB320_315.out
             have hnb126 := NB315_326.out
             have hnc126 := NB326_315.out
             have hcz127_0 := bc BK315 0 (.int .i64 t310)
             have hcz127_1 := bc BK315 1 (.slice Ao22 t311.length co22)
             have hfz127_0 := blk_frozen BK315.out 0
             have hfz127_1 := blk_frozen BK315.out 1
             go_wp2_with (first | ((with_reducible refine gate_callee (f := 24) rfl ?_); refine gl (some 81) Tryd.func24 #[.agg #[.int .i64 t343, .slice Ao116 t344.length co116], .agg #[.int .i64 t310, .slice Ao22 t311.length co22]] ?_; (with_reducible refine (laws_eqPuzzle.calls kj59 t343 _ _ t344 t310 _ _ t311 true _ ?side1 ?side2 ?side3 ?side4 A117.out).mono ?_); (case side1 => refine (Kd.R_reads' (e := 33) (base := w.heap.size) (ok := fun k_ => ((((True ∧ some k_ ≠ (.slice Ao22 t311.length co22 : Value).ownBlock) ∧ some k_ ≠ (.slice Ao29 t334.length co29 : Value).ownBlock) ∧ some k_ ≠ (.slice Ao36 t322.length co36 : Value).ownBlock) ∧ some k_ ≠ (.slice Ao108 t340.length co108 : Value).ownBlock)) (n := t344.length) (c := co116) ?_).2.2; exact (by (with_reducible repeat (first | apply Kd.R_alloc | apply Kd.R_drewN | apply Kd.R_drew)); exact (Kd.R_mono (Kd.R_far (p := ⟨gb348, 1, none⟩) (Kd.R_far (p := ⟨gb348, 0, none⟩) (Kd.R_types HO346.out BK348.out (by decide)) (fun _ hk => hk.2) (.int .i64 t343)) (fun _ hk => hk.2) (.slice Ao116 t344.length co116)) (fun _ h_ => h_.1)))); (case side2 => exact (Kd.R_reads' HO346.out).2.1); (case side3 => refine (Kd.R_reads' (e := 33) (base := w.heap.size) (ok := fun k_ => (((some k_ ≠ (.slice Ao29 t334.length co29 : Value).ownBlock ∧ some k_ ≠ (.slice Ao36 t322.length co36 : Value).ownBlock) ∧ some k_ ≠ (.slice Ao108 t340.length co108 : Value).ownBlock) ∧ some k_ ≠ (.slice Ao116 t344.length co116 : Value).ownBlock)) (n := t311.length) (c := co22) ?_).2.2; exact (by (with_reducible repeat (first | apply Kd.R_alloc | apply Kd.R_drewN | apply Kd.R_drew)); exact (Kd.R_mono (Kd.R_far (p := ⟨gb348, 1, none⟩) (Kd.R_far (p := ⟨gb348, 0, none⟩) (Kd.R_types HO_316001.out BK348.out (by decide)) (fun _ hk => hk.2) (.int .i64 t343)) (fun _ hk => hk.2) (.slice Ao116 t344.length co116)) (fun _ h_ => h_.1)))); (case side4 => exact (Kd.R_reads' HO_316001.out).2.1); rintro e w128 ⟨rfl, hb⟩; refine ⟨_, rfl, ?_⟩; replace HO_316001 := Aside0.mk (Kd.R_below (by (with_reducible repeat (first | apply Kd.R_alloc | apply Kd.R_drewN | apply Kd.R_drew)); exact (Kd.R_mono (Kd.R_far (p := ⟨gb348, 1, none⟩) (Kd.R_far (p := ⟨gb348, 0, none⟩) (Kd.R_types HO_316001.out BK348.out (by decide)) (fun _ hk => hk.2) (.int .i64 t343)) (fun _ hk => hk.2) (.slice Ao116 t344.length co116)) (fun _ h_ => h_.1))) hb); replace HO_321001 := Aside0.mk (Kd.R_below (by (with_reducible repeat (first | apply Kd.R_alloc | apply Kd.R_drewN | apply Kd.R_drew)); exact (Kd.R_mono (Kd.R_far (p := ⟨gb348, 1, none⟩) (Kd.R_far (p := ⟨gb348, 0, none⟩) (Kd.R_types HO_321001.out BK348.out (by decide)) (fun _ hk => hk.2) (.int .i64 t343)) (fun _ hk => hk.2) (.slice Ao116 t344.length co116)) (fun _ h_ => h_.1))) hb); replace HO_327001 := Aside0.mk (Kd.R_below (by (with_reducible repeat (first | apply Kd.R_alloc | apply Kd.R_drewN | apply Kd.R_drew)); exact (Kd.R_mono (Kd.R_far (p := ⟨gb348, 1, none⟩) (Kd.R_far (p := ⟨gb348, 0, none⟩) (Kd.R_types HO_327001.out BK348.out (by decide)) (fun _ hk => hk.2) (.int .i64 t343)) (fun _ hk => hk.2) (.slice Ao116 t344.length co116)) (fun _ h_ => h_.1))) hb); replace HO342 := Aside0.mk (Kd.R_below (by (with_reducible repeat (first | apply Kd.R_alloc | apply Kd.R_drewN | apply Kd.R_drew)); exact (Kd.R_mono (Kd.R_far (p := ⟨gb348, 1, none⟩) (Kd.R_far (p := ⟨gb348, 0, none⟩) (Kd.R_types HO342.out BK348.out (by decide)) (fun _ hk => hk.2) (.int .i64 t343)) (fun _ hk => hk.2) (.slice Ao116 t344.length co116)) (fun _ h_ => h_.1))) hb); replace HO346 := Aside0.mk (Kd.R_below (by (with_reducible repeat (first | apply Kd.R_alloc | apply Kd.R_drewN | apply Kd.R_drew)); exact (Kd.R_mono (Kd.R_far (p := ⟨gb348, 1, none⟩) (Kd.R_far (p := ⟨gb348, 0, none⟩) (Kd.R_types HO346.out BK348.out (by decide)) (fun _ hk => hk.2) (.int .i64 t343)) (fun _ hk => hk.2) (.slice Ao116 t344.length co116)) (fun _ h_ => h_.1))) hb); replace BK304 := Aside0.mk (blk_below (g := gb304) (o := .cells #[.int .i64 a0_0, .slice A0_1 l0_1.length c0_1] 46 (0, 0)) (by (with_reducible repeat (first | refine blk_drewN ?_ _ | refine blk_drew ?_ | refine blk_alloc ?_ _)); refine blk_far ?_ NB304_348.out _; (with_reducible repeat (first | refine blk_drewN ?_ _ | refine blk_drew ?_ | refine blk_alloc ?_ _)); refine blk_far ?_ NB304_348.out _; (with_reducible repeat (first | refine blk_drewN ?_ _ | refine blk_drew ?_ | refine blk_alloc ?_ _)); exact BK304.out) hb); replace BK315 := Aside0.mk (blk_below (g := gb315) (o := .cells #[.int .i64 t310, .slice Ao22 t311.length co22] 38 (0, 0)) (by (with_reducible repeat (first | refine blk_drewN ?_ _ | refine blk_drew ?_ | refine blk_alloc ?_ _)); refine blk_far ?_ NB315_348.out _; (with_reducible repeat (first | refine blk_drewN ?_ _ | refine blk_drew ?_ | refine blk_alloc ?_ _)); refine blk_far ?_ NB315_348.out _; (with_reducible repeat (first | refine blk_drewN ?_ _ | refine blk_drew ?_ | refine blk_alloc ?_ _)); exact BK315.out) hb); replace BK320 := Aside0.mk (blk_below (g := gb320) (o := .cells #[.int .i64 t316, .slice Ao29 t334.length co29] 38 (0, 0)) (by (with_reducible repeat (first | refine blk_drewN ?_ _ | refine blk_drew ?_ | refine blk_alloc ?_ _)); refine blk_far ?_ NB320_348.out _; (with_reducible repeat (first | refine blk_drewN ?_ _ | refine blk_drew ?_ | refine blk_alloc ?_ _)); refine blk_far ?_ NB320_348.out _; (with_reducible repeat (first | refine blk_drewN ?_ _ | refine blk_drew ?_ | refine blk_alloc ?_ _)); exact BK320.out) hb); replace BK326 := Aside0.mk (blk_below (g := gb326) (o := .cells #[.int .i64 t321, .slice Ao36 t322.length co36] 38 (0, 0)) (by (with_reducible repeat (first | refine blk_drewN ?_ _ | refine blk_drew ?_ | refine blk_alloc ?_ _)); refine blk_far ?_ NB326_348.out _; (with_reducible repeat (first | refine blk_drewN ?_ _ | refine blk_drew ?_ | refine blk_alloc ?_ _)); refine blk_far ?_ NB326_348.out _; (with_reducible repeat (first | refine blk_drewN ?_ _ | refine blk_drew ?_ | refine blk_alloc ?_ _)); exact BK326.out) hb); replace BK348 := Aside0.mk (blk_below (g := gb348) (o := .cells #[.int .i64 t343, .slice Ao116 t344.length co116] 38 (0, 0)) (by (with_reducible repeat (first | refine blk_drewN ?_ _ | refine blk_drew ?_ | refine blk_alloc ?_ _)); refine blk_put (cs := #[.int .i64 t343, .slice none 0 0]) ?_ 1 _ rfl; (with_reducible repeat (first | refine blk_drewN ?_ _ | refine blk_drew ?_ | refine blk_alloc ?_ _)); refine blk_put (cs := #[.int .i64 0, .slice none 0 0]) ?_ 0 _ rfl; (with_reducible repeat (first | refine blk_drewN ?_ _ | refine blk_drew ?_ | refine blk_alloc ?_ _)); exact BK348.out) hb); replace HB := bs hb; (try clear hb)))
             go_meet
             case rel => exact ⟨_, ((t347 != t314)), (rs), H', ⟨by have := HJ10.out; have := HJ59.out; first | omega | exact Nat.le_refl _⟩, ⟨by (try simp only [hl321001_59]); (with_reducible repeat (first | apply Kd.R_alloc | apply Kd.R_drewN | apply Kd.R_drew)); exact Kd.R_mono HO_316001.out (fun _ hk => ⟨hk.1.1.1, ⟨hk.1.1.2, hk.2⟩⟩)⟩, ⟨by (try simp only [hl321001_59]); (with_reducible repeat (first | apply Kd.R_alloc | apply Kd.R_drewN | apply Kd.R_drew)); exact Kd.R_mono HO_321001.out (fun _ hk => ⟨hk.1.1.1, ⟨hk.1.1.2, hk.2⟩⟩)⟩, ⟨by (try simp only [hl321001_59]); (with_reducible repeat (first | apply Kd.R_alloc | apply Kd.R_drewN | apply Kd.R_drew)); exact Kd.R_mono HO_327001.out (fun _ hk => ⟨hk.1.1.1, ⟨hk.1.1.2, hk.2⟩⟩)⟩, ⟨by (try simp only [hl321001_59]); (with_reducible repeat (first | apply Kd.R_alloc | apply Kd.R_drewN | apply Kd.R_drew)); exact Kd.R_mono HO346.out (fun _ hk => ⟨hk.1.1.1.2, ⟨hk.1.1.2, hk.1.2⟩⟩)⟩, ⟨by (try simp only [hl321001_59]); (with_reducible repeat (first | refine blk_drewN ?_ _ | refine blk_drew ?_ | refine blk_alloc ?_ _)); exact BK304.out⟩, ⟨by (try simp only [hl321001_59]); (with_reducible repeat (first | refine blk_drewN ?_ _ | refine blk_drew ?_ | refine blk_alloc ?_ _)); exact BK315.out⟩, ⟨by (try simp only [hl321001_59]); (with_reducible repeat (first | refine blk_drewN ?_ _ | refine blk_drew ?_ | refine blk_alloc ?_ _)); exact BK320.out⟩, ⟨by (try simp only [hl321001_59]); (with_reducible repeat (first | refine blk_drewN ?_ _ | refine blk_drew ?_ | refine blk_alloc ?_ _)); exact BK326.out⟩, ⟨by (try simp only [hl321001_59]); (with_reducible repeat (first | refine blk_drewN ?_ _ | refine blk_drew ?_ | refine blk_alloc ?_ _)); exact BK348.out⟩, ⟨bw⟩⟩
            ·replace c118 := Bool.eq_false_iff.mpr c118
             subst c118
             rw [if_neg (show ¬ (false = true) by decide)] at H
             have H' := Aside0.mk H
             clear H
             have hnb129 := NB348_304.out
             have hnc129 := NB304_348.out
             have hnb130 := NB348_315.out
             have hnc130 := NB315_348.out
             have hnb131 := NB348_320.out
             have hnc131 := NB320_348.out
             have hnb132 := NB348_326.out
             have hnc132 := NB326_348.out
             have hcz133_0 := bc BK348 0 (.int .i64 0)
             have hcz133_1 := bc BK348 1 (.slice none 0 0)
             have hfz133_0 := blk_frozen BK348.out 0
             have hfz133_1 := blk_frozen BK348.out 1
             have hnb134 := NB315_304.out
             have hnc134 := NB304_315.out
             have hnb135 := NB315_320.out
             have hnc135 := NB320_315.out
             have hnb136 := NB315_326.out
             have hnc136 := NB326_315.out
             have hcz137_0 := bc BK315 0 (.int .i64 t310)
             have hcz137_1 := bc BK315 1 (.slice Ao22 t311.length co22)
             have hfz137_0 := blk_frozen BK315.out 0
             have hfz137_1 := blk_frozen BK315.out 1
             go_wp2_with (first | ((with_reducible refine gate_callee (f := 24) rfl ?_); refine gl (some 81) Tryd.func24 #[.agg #[.int .i64 t343, .slice Ao116 t344.length co116], .agg #[.int .i64 t310, .slice Ao22 t311.length co22]] ?_; (with_reducible refine (laws_eqPuzzle.calls kj59 t343 _ _ t344 t310 _ _ t311 false _ ?side1 ?side2 ?side3 ?side4 A117.out).mono ?_); (case side1 => refine (Kd.R_reads' (e := 33) (base := w.heap.size) (ok := fun k_ => ((((True ∧ some k_ ≠ (.slice Ao22 t311.length co22 : Value).ownBlock) ∧ some k_ ≠ (.slice Ao29 t334.length co29 : Value).ownBlock) ∧ some k_ ≠ (.slice Ao36 t322.length co36 : Value).ownBlock) ∧ some k_ ≠ (.slice Ao108 t340.length co108 : Value).ownBlock)) (n := t344.length) (c := co116) ?_).2.2; exact (by (with_reducible repeat (first | apply Kd.R_alloc | apply Kd.R_drewN | apply Kd.R_drew)); exact (Kd.R_mono (Kd.R_far (p := ⟨gb348, 1, none⟩) (Kd.R_far (p := ⟨gb348, 0, none⟩) (Kd.R_types HO346.out BK348.out (by decide)) (fun _ hk => hk.2) (.int .i64 t343)) (fun _ hk => hk.2) (.slice Ao116 t344.length co116)) (fun _ h_ => h_.1)))); (case side2 => exact (Kd.R_reads' HO346.out).2.1); (case side3 => refine (Kd.R_reads' (e := 33) (base := w.heap.size) (ok := fun k_ => (((some k_ ≠ (.slice Ao29 t334.length co29 : Value).ownBlock ∧ some k_ ≠ (.slice Ao36 t322.length co36 : Value).ownBlock) ∧ some k_ ≠ (.slice Ao108 t340.length co108 : Value).ownBlock) ∧ some k_ ≠ (.slice Ao116 t344.length co116 : Value).ownBlock)) (n := t311.length) (c := co22) ?_).2.2; exact (by (with_reducible repeat (first | apply Kd.R_alloc | apply Kd.R_drewN | apply Kd.R_drew)); exact (Kd.R_mono (Kd.R_far (p := ⟨gb348, 1, none⟩) (Kd.R_far (p := ⟨gb348, 0, none⟩) (Kd.R_types HO_316001.out BK348.out (by decide)) (fun _ hk => hk.2) (.int .i64 t343)) (fun _ hk => hk.2) (.slice Ao116 t344.length co116)) (fun _ h_ => h_.1)))); (case side4 => exact (Kd.R_reads' HO_316001.out).2.1); rintro e w138 ⟨rfl, hb⟩; refine ⟨_, rfl, ?_⟩; replace HO_316001 := Aside0.mk (Kd.R_below (by (with_reducible repeat (first | apply Kd.R_alloc | apply Kd.R_drewN | apply Kd.R_drew)); exact (Kd.R_mono (Kd.R_far (p := ⟨gb348, 1, none⟩) (Kd.R_far (p := ⟨gb348, 0, none⟩) (Kd.R_types HO_316001.out BK348.out (by decide)) (fun _ hk => hk.2) (.int .i64 t343)) (fun _ hk => hk.2) (.slice Ao116 t344.length co116)) (fun _ h_ => h_.1))) hb); replace HO_321001 := Aside0.mk (Kd.R_below (by (with_reducible repeat (first | apply Kd.R_alloc | apply Kd.R_drewN | apply Kd.R_drew)); exact (Kd.R_mono (Kd.R_far (p := ⟨gb348, 1, none⟩) (Kd.R_far (p := ⟨gb348, 0, none⟩) (Kd.R_types HO_321001.out BK348.out (by decide)) (fun _ hk => hk.2) (.int .i64 t343)) (fun _ hk => hk.2) (.slice Ao116 t344.length co116)) (fun _ h_ => h_.1))) hb); replace HO_327001 := Aside0.mk (Kd.R_below (by (with_reducible repeat (first | apply Kd.R_alloc | apply Kd.R_drewN | apply Kd.R_drew)); exact (Kd.R_mono (Kd.R_far (p := ⟨gb348, 1, none⟩) (Kd.R_far (p := ⟨gb348, 0, none⟩) (Kd.R_types HO_327001.out BK348.out (by decide)) (fun _ hk => hk.2) (.int .i64 t343)) (fun _ hk => hk.2) (.slice Ao116 t344.length co116)) (fun _ h_ => h_.1))) hb); replace HO342 := Aside0.mk (Kd.R_below (by (with_reducible repeat (first | apply Kd.R_alloc | apply Kd.R_drewN | apply Kd.R_drew)); exact (Kd.R_mono (Kd.R_far (p := ⟨gb348, 1, none⟩) (Kd.R_far (p := ⟨gb348, 0, none⟩) (Kd.R_types HO342.out BK348.out (by decide)) (fun _ hk => hk.2) (.int .i64 t343)) (fun _ hk => hk.2) (.slice Ao116 t344.length co116)) (fun _ h_ => h_.1))) hb); replace HO346 := Aside0.mk (Kd.R_below (by (with_reducible repeat (first | apply Kd.R_alloc | apply Kd.R_drewN | apply Kd.R_drew)); exact (Kd.R_mono (Kd.R_far (p := ⟨gb348, 1, none⟩) (Kd.R_far (p := ⟨gb348, 0, none⟩) (Kd.R_types HO346.out BK348.out (by decide)) (fun _ hk => hk.2) (.int .i64 t343)) (fun _ hk => hk.2) (.slice Ao116 t344.length co116)) (fun _ h_ => h_.1))) hb); replace BK304 := Aside0.mk (blk_below (g := gb304) (o := .cells #[.int .i64 a0_0, .slice A0_1 l0_1.length c0_1] 46 (0, 0)) (by (with_reducible repeat (first | refine blk_drewN ?_ _ | refine blk_drew ?_ | refine blk_alloc ?_ _)); refine blk_far ?_ NB304_348.out _; (with_reducible repeat (first | refine blk_drewN ?_ _ | refine blk_drew ?_ | refine blk_alloc ?_ _)); refine blk_far ?_ NB304_348.out _; (with_reducible repeat (first | refine blk_drewN ?_ _ | refine blk_drew ?_ | refine blk_alloc ?_ _)); exact BK304.out) hb); replace BK315 := Aside0.mk (blk_below (g := gb315) (o := .cells #[.int .i64 t310, .slice Ao22 t311.length co22] 38 (0, 0)) (by (with_reducible repeat (first | refine blk_drewN ?_ _ | refine blk_drew ?_ | refine blk_alloc ?_ _)); refine blk_far ?_ NB315_348.out _; (with_reducible repeat (first | refine blk_drewN ?_ _ | refine blk_drew ?_ | refine blk_alloc ?_ _)); refine blk_far ?_ NB315_348.out _; (with_reducible repeat (first | refine blk_drewN ?_ _ | refine blk_drew ?_ | refine blk_alloc ?_ _)); exact BK315.out) hb); replace BK320 := Aside0.mk (blk_below (g := gb320) (o := .cells #[.int .i64 t316, .slice Ao29 t334.length co29] 38 (0, 0)) (by (with_reducible repeat (first | refine blk_drewN ?_ _ | refine blk_drew ?_ | refine blk_alloc ?_ _)); refine blk_far ?_ NB320_348.out _; (with_reducible repeat (first | refine blk_drewN ?_ _ | refine blk_drew ?_ | refine blk_alloc ?_ _)); refine blk_far ?_ NB320_348.out _; (with_reducible repeat (first | refine blk_drewN ?_ _ | refine blk_drew ?_ | refine blk_alloc ?_ _)); exact BK320.out) hb); replace BK326 := Aside0.mk (blk_below (g := gb326) (o := .cells #[.int .i64 t321, .slice Ao36 t322.length co36] 38 (0, 0)) (by (with_reducible repeat (first | refine blk_drewN ?_ _ | refine blk_drew ?_ | refine blk_alloc ?_ _)); refine blk_far ?_ NB326_348.out _; (with_reducible repeat (first | refine blk_drewN ?_ _ | refine blk_drew ?_ | refine blk_alloc ?_ _)); refine blk_far ?_ NB326_348.out _; (with_reducible repeat (first | refine blk_drewN ?_ _ | refine blk_drew ?_ | refine blk_alloc ?_ _)); exact BK326.out) hb); replace BK348 := Aside0.mk (blk_below (g := gb348) (o := .cells #[.int .i64 t343, .slice Ao116 t344.length co116] 38 (0, 0)) (by (with_reducible repeat (first | refine blk_drewN ?_ _ | refine blk_drew ?_ | refine blk_alloc ?_ _)); refine blk_put (cs := #[.int .i64 t343, .slice none 0 0]) ?_ 1 _ rfl; (with_reducible repeat (first | refine blk_drewN ?_ _ | refine blk_drew ?_ | refine blk_alloc ?_ _)); refine blk_put (cs := #[.int .i64 0, .slice none 0 0]) ?_ 0 _ rfl; (with_reducible repeat (first | refine blk_drewN ?_ _ | refine blk_drew ?_ | refine blk_alloc ?_ _)); exact BK348.out) hb); replace HB := bs hb; (try clear hb)))
             go_meet
             case rel => exact ⟨_, (true), (rs), H', ⟨by have := HJ10.out; have := HJ59.out; first | omega | exact Nat.le_refl _⟩, ⟨by (try simp only [hl321001_59]); (with_reducible repeat (first | apply Kd.R_alloc | apply Kd.R_drewN | apply Kd.R_drew)); exact Kd.R_mono HO_316001.out (fun _ hk => ⟨hk.1.1.1, ⟨hk.1.1.2, hk.2⟩⟩)⟩, ⟨by (try simp only [hl321001_59]); (with_reducible repeat (first | apply Kd.R_alloc | apply Kd.R_drewN | apply Kd.R_drew)); exact Kd.R_mono HO_321001.out (fun _ hk => ⟨hk.1.1.1, ⟨hk.1.1.2, hk.2⟩⟩)⟩, ⟨by (try simp only [hl321001_59]); (with_reducible repeat (first | apply Kd.R_alloc | apply Kd.R_drewN | apply Kd.R_drew)); exact Kd.R_mono HO_327001.out (fun _ hk => ⟨hk.1.1.1, ⟨hk.1.1.2, hk.2⟩⟩)⟩, ⟨by (try simp only [hl321001_59]); (with_reducible repeat (first | apply Kd.R_alloc | apply Kd.R_drewN | apply Kd.R_drew)); exact Kd.R_mono HO346.out (fun _ hk => ⟨hk.1.1.1.2, ⟨hk.1.1.2, hk.1.2⟩⟩)⟩, ⟨by (try simp only [hl321001_59]); (with_reducible repeat (first | refine blk_drewN ?_ _ | refine blk_drew ?_ | refine blk_alloc ?_ _)); exact BK304.out⟩, ⟨by (try simp only [hl321001_59]); (with_reducible repeat (first | refine blk_drewN ?_ _ | refine blk_drew ?_ | refine blk_alloc ?_ _)); exact BK315.out⟩, ⟨by (try simp only [hl321001_59]); (with_reducible repeat (first | refine blk_drewN ?_ _ | refine blk_drew ?_ | refine blk_alloc ?_ _)); exact BK320.out⟩, ⟨by (try simp only [hl321001_59]); (with_reducible repeat (first | refine blk_drewN ?_ _ | refine blk_drew ?_ | refine blk_alloc ?_ _)); exact BK326.out⟩, ⟨by (try simp only [hl321001_59]); (with_reducible repeat (first | refine blk_drewN ?_ _ | refine blk_drew ?_ | refine blk_alloc ?_ _)); exact BK348.out⟩, ⟨bw⟩⟩
           case rest =>
            clear HC96
            try clear c1
            try clear c2
            try clear p2
            try clear c3
            try clear c3b0
            try clear c4
            try clear c5
            try clear c6
            try clear c7
            try clear c8
            try clear c9
            try clear c10
            try clear c11
            try clear c12
            try clear c13
            try clear c14
            try clear c20
            try clear c24
            try clear c25
            try clear c26
            try clear c27
            try clear c29
            try clear c32
            try clear c33
            try clear c34
            try clear c38
            try clear c39
            try clear c40
            try clear c41
            try clear c43
            try clear c44
            try clear c47
            try clear c48
            try clear c49
            try clear c51
            try clear c52
            try clear c55
            try clear c58
            try clear c65
            try clear c66
            try clear c67
            try clear c70
            try clear c70b0
            try clear c72
            try clear c73
            try clear c74
            try clear c75
            try clear c77
            try clear c78
            try clear c81
            try clear c82
            try clear c83
            try clear c85
            try clear c86
            try clear c89
            try clear c92
            try clear c92b0
            try clear c93
            try clear c93b0
            try clear c93b1
            try clear c97
            try clear c98
            try clear c99
            try clear c104
            try clear c105
            try clear c111
            try clear c112
            try clear c113
            try clear c114
            try clear c118
            try clear c119
            try clear c120
            try clear c121
            try clear c122
            try clear c124
            try clear c125
            try clear c126
            try clear c129
            try clear c130
            try clear c131
            try clear c132
            try clear c134
            try clear c135
            try clear c136
            try clear hcz100_0
            try clear hcz100_1
            try clear hcz102_0
            try clear hcz102_1
            try clear hcz106_0
            try clear hcz106_1
            try clear hcz115_0
            try clear hcz115_1
            try clear hcz123_0
            try clear hcz123_1
            try clear hcz127_0
            try clear hcz127_1
            try clear hcz133_0
            try clear hcz133_1
            try clear hcz137_0
            try clear hcz137_1
            try clear hcz13_0
            try clear hcz13_1
            try clear hcz15_0
            try clear hcz15_1
            try clear hcz21_0
            try clear hcz21_1
            try clear hcz23_0
            try clear hcz23_1
            try clear hcz28_0
            try clear hcz28_1
            try clear hcz35_0
            try clear hcz35_1
            try clear hcz42_0
            try clear hcz42_1
            try clear hcz45_0
            try clear hcz45_1
            try clear hcz50_0
            try clear hcz50_1
            try clear hcz53_0
            try clear hcz53_1
            try clear hcz5_0
            try clear hcz5_1
            try clear hcz68_0
            try clear hcz68_1
            try clear hcz76_0
            try clear hcz76_1
            try clear hcz79_0
            try clear hcz79_1
            try clear hcz84_0
            try clear hcz84_1
            try clear hcz87_0
            try clear hcz87_1
            try clear hfz100_0
            try clear hfz100_1
            try clear hfz102_0
            try clear hfz102_1
            try clear hfz106_0
            try clear hfz106_1
            try clear hfz115_0
            try clear hfz115_1
            try clear hfz123_0
            try clear hfz123_1
            try clear hfz127_0
            try clear hfz127_1
            try clear hfz133_0
            try clear hfz133_1
            try clear hfz137_0
            try clear hfz137_1
            try clear hfz13_0
            try clear hfz13_1
            try clear hfz15_0
            try clear hfz15_1
            try clear hfz21_0
            try clear hfz21_1
            try clear hfz23_0
            try clear hfz23_1
            try clear hfz28_0
            try clear hfz28_1
            try clear hfz35_0
            try clear hfz35_1
            try clear hfz42_0
            try clear hfz42_1
            try clear hfz45_0
            try clear hfz45_1
            try clear hfz50_0
            try clear hfz50_1
            try clear hfz53_0
            try clear hfz53_1
            try clear hfz5_0
            try clear hfz5_1
            try clear hfz68_0
            try clear hfz68_1
            try clear hfz76_0
            try clear hfz76_1
            try clear hfz79_0
            try clear hfz79_1
            try clear hfz84_0
            try clear hfz84_1
            try clear hfz87_0
            try clear hfz87_1
            try clear p2
            obtain ⟨kq, x87_95, rfl, HA, HJ95, HO_316001, HO_321001, HO_327001, HO_349001, BK304, BK315, BK320, BK326, BK348, HB⟩ := hcut
            have hl327001_95 := (Kd.R_reads' HO_327001.out).1
            rw [hl327001_95] at HO_327001
            (try simp only [hl327001_95])
            (try simp only [hl327001_95] at BK304)
            (try simp only [hl327001_95] at BK315)
            (try simp only [hl327001_95] at BK320)
            (try simp only [hl327001_95] at BK326)
            (try simp only [hl327001_95] at BK348)
            (try simp only [hl327001_95] at HO_316001)
            (try simp only [hl327001_95] at HO_321001)
            (try simp only [hl327001_95] at HO_349001)
            cases kq with
            | zero => exact absurd HA.out (by simp [laws_FnExactHarderPuzzle.j2])
            | succ kj95 =>
             have H := HA.out
             clear HA
             simp only [laws_FnExactHarderPuzzle.j2] at H
             by_cases c139 : x87_95 = true
             ·subst c139
              rw [if_pos rfl] at H
              exact absurd (Option.some.inj H) (by rw [HRT.out]; decide)
             ·replace c139 := Bool.eq_false_iff.mpr c139
              subst c139
              rw [if_neg (show ¬ (false = true) by decide)] at H
              replace H := Option.bind_eq_some_iff.mp H
              obtain ⟨t350, A1400, H⟩ := H
              (try dsimp only at H)
              have A140 := Aside0.mk A1400
              clear A1400
              by_cases c141 : t350 < 0
              ·rw [if_pos c141] at H
               have c141b0 : decide (t350 < 0) = true := decide_eq_true c141
               clear c141
               exact absurd (Option.some.inj H) (by rw [HRT.out]; decide)
              ·rw [if_neg c141] at H
               have c141b0 : decide (t350 < 0) = false := decide_eq_false c141
               clear c141
               by_cases c142 : t350 = t336
               ·rw [if_pos c142] at H
                have c142b0 : (t350 == t336) = true := beq_iff_eq.mpr c142
                have c142b1 : (t350 != t336) = false := bne_eq_false_iff_eq.mpr c142
                clear c142
                obtain rfl := Option.some.inj H
                have hnb143 := NB326_304.out
                have hnc143 := NB304_326.out
                have hnb144 := NB326_315.out
                have hnc144 := NB315_326.out
                have hnb145 := NB326_320.out
                have hnc145 := NB320_326.out
                have hnb146 := NB326_348.out
                have hnc146 := NB348_326.out
                have hcz147_0 : wc.cell? ⟨gb326, 0, none⟩ = some (.int .i64 t321) := ec BK326
                have hcz147_1 : wc.cell? ⟨gb326, 1, none⟩ = some (.slice Ao36 t337.length co36) := ec BK326
                have hfz147_0 := blk_frozen BK326.out 0
                have hfz147_1 := blk_frozen BK326.out 1
                go_wp2_with (first | ((with_reducible refine gate_callee (f := 26) rfl ?_); refine gl (some 90) Tryd.func26 #[.agg #[.int .i64 t321, .slice Ao36 t337.length co36], .int .i64 1] ?_; (with_reducible refine (laws_heldPuzzle.calls kj95 t321 _ _ t337 1 t350 _ ?side1 ?side2 A140.out).mono ?_); (case side1 => repeat (first | exact (Kd.R_reads' HO_327001.out).2.2 | (with_reducible refine Kd.C_alloc ?_ _) | (with_reducible refine Kd.C_drewN ?_ _) | (with_reducible refine Kd.C_drew ?_))); (case side2 => exact (Kd.R_reads' HO_327001.out).2.1); rintro e w148 ⟨rfl, hb⟩; refine ⟨_, rfl, ?_⟩; replace HO_316001 := Aside0.mk (Kd.R_below (pr HO_316001) hb); replace HO_321001 := Aside0.mk (Kd.R_below (pr HO_321001) hb); replace HO_327001 := Aside0.mk (Kd.R_below (pr HO_327001) hb); replace HO_349001 := Aside0.mk (Kd.R_below (pr HO_349001) hb); replace BK304 := nk BK304 hb; replace BK315 := nk BK315 hb; replace BK320 := nk BK320 hb; replace BK326 := nk BK326 hb; replace BK348 := nk BK348 hb; replace HB := bs hb; (try clear hb)))
                go_ret
                exact ⟨rs, bw⟩
               ·rw [if_neg c142] at H
                have c142b0 : (t350 == t336) = false := beq_eq_false_iff_ne.mpr c142
                have c142b1 : (t350 != t336) = true := bne_iff_ne.mpr c142
                exact absurd (Option.some.inj H) (by rw [HRT.out]; decide)
          ·rw [if_neg c93] at H
           have c93b0 : (t338 == t336) = false := beq_eq_false_iff_ne.mpr c93
           have c93b1 : (t338 != t336) = true := bne_iff_ne.mpr c93
           exact absurd (Option.some.inj H) (by rw [HRT.out]; decide)
     ·replace c58 := Bool.eq_false_iff.mpr c58
      subst c58
      rw [if_neg (show ¬ (false = true) by decide)] at H
      exact absurd (Option.some.inj H) (by rw [HRT.out]; decide)

end Go.Proofs.YtmindeeacfdonaaDoor.PFnExactHarderPuzzle
